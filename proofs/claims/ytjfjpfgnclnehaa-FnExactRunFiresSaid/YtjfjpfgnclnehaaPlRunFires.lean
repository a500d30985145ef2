/- RunFires: the program and the reference come to the same. -/
import Derived.Test.YtjfjpfgnclnehaaPlFire
import Derived.Test.YtjfjpfgnclnehaaX21
import Derived.Test.YtjfjpfgnclnehaaX22
namespace Go.Proofs.Ytjfjpfgnclnehaa.X
set_option linter.unusedSimpArgs false
set_option linter.unusedVariables false
open Go.RowKit Go.Proofs.YtjfjpfgnclnehaaW.PrintWords Go.Proofs.YtjfjpfgnclnehaaW.PrintLast
/-- There always is a holder. -/
theorem hs_ne (l : List Int) (h : 2 ≤ l.length) : 0 < (hs l l.length).length := by
  by_cases h0 : (hs l l.length).length = 0
  · exfalso
    have hnil : hs l l.length = [] := List.eq_nil_of_length_eq_zero h0
    have hno : ∀ j : Nat, j < l.length → hold l j = false := by
      intro j hj
      cases hh : hold l j with
      | false => rfl
      | true =>
        have : (j : Int) ∈ hs l l.length := (hs_mem l l.length _).2 ⟨j, hj, hh, rfl⟩
        rw [hnil] at this
        cases this
    have hall : ∀ j : Nat, j < l.length → rd l (j : Int) = rd l 0 := by
      intro j
      induction j with
      | zero => intro _; rfl
      | succ j ih =>
        intro hj
        have h1 := hno (j + 1) hj
        unfold hold at h1
        rw [if_neg (by omega)] at h1
        have h2 : rd l ((j + 1 : Nat) : Int) = rd l (((j + 1 : Nat) : Int) - 1) := by simpa using h1
        rw [h2, show (((j + 1 : Nat) : Int) - 1) = (j : Int) by omega]
        exact ih (by omega)
    have h1 := hno 0 (by omega)
    unfold hold at h1
    rw [if_pos rfl] at h1
    have h2 := hall (l.length - 1) (by omega)
    rw [show ((l.length - 1 : Nat) : Int) = (l.length : Int) - 1 by omega] at h2
    rw [h2] at h1
    simp at h1
  · omega
/-- The station that fires at a choice, and the states behind all choices. -/
def pick (l : List Int) (x : Int) : Nat := (rd (hs l l.length) (x % ((hs l l.length).length : Int))).toNat
theorem pick_ok (l : List Int) (x : Int) (h : 2 ≤ l.length) : rd (hs l l.length) (x % ((hs l l.length).length : Int)) = (pick l x : Int) ∧ pick l x < l.length := by
  have hp := hs_ne l h
  have h0 := Int.emod_nonneg x (show ((hs l l.length).length : Int) ≠ 0 by omega)
  have h1 := Int.emod_lt_of_pos x (show 0 < ((hs l l.length).length : Int) by omega)
  obtain ⟨m, hm⟩ : ∃ m : Nat, x % ((hs l l.length).length : Int) = (m : Int) := ⟨_, (Int.toNat_of_nonneg h0).symm⟩
  have hml : m < (hs l l.length).length := by omega
  have hmem : (hs l l.length)[m] ∈ hs l l.length := List.getElem_mem hml
  obtain ⟨j, hj, _, hjx⟩ := (hs_mem l l.length _).1 hmem
  unfold pick
  rw [hm, rd_at _ m hml, ← hjx]
  simp [hj]
def runs (k : Int) : List Int → List Int → List (List Int)
  | l, [] => [l]
  | l, x :: cs => l :: runs k (fire l k (pick l x)) cs
def after (k : Int) : List Int → List Int → List Int
  | l, [] => l
  | l, x :: cs => after k (fire l k (pick l x)) cs
theorem runs_snoc (k : Int) (x : Int) : ∀ (cs l : List Int), runs k l (cs ++ [x]) = runs k l cs ++ [fire (after k l cs) k (pick (after k l cs) x)] := by
  intro cs
  induction cs with
  | nil => intro l; rfl
  | cons c cs ih => intro l; simp [runs, after, ih]
theorem after_snoc (k : Int) (x : Int) : ∀ (cs l : List Int), after k l (cs ++ [x]) = fire (after k l cs) k (pick (after k l cs) x) := by
  intro cs
  induction cs with
  | nil => intro l; rfl
  | cons c cs ih => intro l; simp [after, ih]
theorem runs_len (k : Int) : ∀ (cs l : List Int), (runs k l cs).length = cs.length + 1 := by
  intro cs
  induction cs with
  | nil => intro l; rfl
  | cons c cs ih => intro l; simp [runs, ih]
theorem runs_last (k : Int) : ∀ (cs l : List Int) (h : 0 < (runs k l cs).length), (runs k l cs)[(runs k l cs).length - 1]'(by omega) = after k l cs := by
  intro cs
  induction cs with
  | nil => intro l h; rfl
  | cons c cs ih =>
    intro l h
    have hl := runs_len k cs (fire l k (pick l c))
    have := ih (fire l k (pick l c)) (by omega)
    simp only [runs, after]
    rw [← this]
    simp [List.getElem_cons, hl]
theorem after_ok {k : Int} : ∀ (cs l : List Int), isSt l k = true → isSt (after k l cs) k = true := by
  intro cs
  induction cs with
  | nil => intro l h; exact h
  | cons c cs ih =>
    intro l h
    have hb := isSt_iff h
    exact ih _ (fire_ok h _ (pick_ok l c hb.2.2.1).2)
theorem runs_each (k : Int) : ∀ (cs l : List Int), isSt l k = true → ∀ r ∈ runs k l cs, r.length ≤ 12 := by
  intro cs
  induction cs with
  | nil => intro l h r hr; simp only [runs, List.mem_singleton] at hr; subst hr; exact (isSt_iff h).2.2.2.1
  | cons c cs ih =>
    intro l h r hr
    have hb := isSt_iff h
    rcases List.mem_cons.1 hr with rfl | hr
    · exact hb.2.2.2.1
    · exact ih _ (fire_ok h _ (pick_ok l c hb.2.2.1).2) r hr
theorem spec_l0_ev (l : List Int) (k : Int) (cs : List Int) (h : isSt l k = true) (hc : cs.length ≤ 40) (h0 : ∀ x ∈ cs, 0 ≤ x) : Ev (fun n => spec_RunFires.l0 n k [l] cs (cs.length : Int) 0) (runs k l cs, true) :=
  evUp0 cs.length (fun n (s : List (List Int)) (i : Nat) => spec_RunFires.l0 n k s cs (cs.length : Int) (i : Int)) (fun i s => s = runs k l (cs.take i)) (runs k l cs, true) [l] rfl
    (by
      intro i s hi hI
      have hlen := runs_len k (cs.take i) l
      rw [List.length_take, Nat.min_eq_left (Nat.le_of_lt hi), ← hI] at hlen
      have hlast := runs_last k (cs.take i) l (by rw [← hI]; omega)
      obtain ⟨now, hnow⟩ : ∃ q, q = after k l (cs.take i) := ⟨_, rfl⟩
      have hok : isSt now k = true := hnow ▸ after_ok (cs.take i) l h
      have hb := isSt_iff hok
      have hx := h0 _ (List.getElem_mem hi)
      have hp := pick_ok now cs[i] hb.2.2.1
      have hn := hs_ne now hb.2.2.1
      have hrd : rd_L2 s ((s.length : Int) - 1) = now := by
        rw [show ((s.length : Int) - 1) = ((s.length - 1 : Nat) : Int) by omega, hnow, ← hlast]
        subst hI
        simp only [rd_L2, Int.toNat_natCast, List.getD_eq_getElem?_getD]
        rw [List.getElem?_eq_getElem (by omega)]
        rfl
      refine .inl ⟨s ++ [fire now k (pick now cs[i])], by rw [List.take_succ_eq_append_getElem hi, runs_snoc, ← hnow, hI], fun h => ?_⟩
      refine evCall (specHolders_ev now (by omega)) (fun n hk => ?_) h
      show spec_RunFires.l0 (n + 1) k s cs (cs.length : Int) (i : Int) = spec_RunFires.l0 n k (s ++ [fire now k (pick now cs[i])]) cs (cs.length : Int) (i + 1 : Nat)
      have hm0 := Int.emod_nonneg cs[i] (show ((hs now now.length).length : Int) ≠ 0 by omega)
      have hm1 := Int.emod_lt_of_pos cs[i] (show 0 < ((hs now now.length).length : Int) by omega)
      simp only [spec_RunFires.l0]
      rw [if_pos (by omega), if_pos (by omega), if_pos (by omega), w64 (by omega) (by omega), if_pos (by omega), if_pos (by omega), hrd, hk]
      simp only [Option.bind_some]
      rw [rd_at cs i hi, Int.tmod_eq_emod_of_nonneg hx, if_neg (by omega), if_pos hm0, if_pos hm1, hp.1, specFire_eq hok _ hp.2]
      simp only [Option.bind_some]
      rw [if_pos (by omega), w64 (by omega) (by omega)]
      rfl)
    (by
      intro s hI
      refine evEnd fun n => ?_
      show spec_RunFires.l0 (n + 1) k s cs (cs.length : Int) (cs.length : Int) = _
      simp only [spec_RunFires.l0]
      rw [if_neg (by omega), hI, List.take_length])
theorem impl_l0_ev (l : List Int) (k : Int) (cs : List Int) (h : isSt l k = true) (hc : cs.length ≤ 40) (h0 : ∀ x ∈ cs, 0 ≤ x) : Ev (fun n => impl_RunFires.l0 n k [l] l cs (cs.length : Int) 0) (runs k l cs, true) :=
  evUp0 cs.length (fun n (s : List (List Int) × List Int) (i : Nat) => impl_RunFires.l0 n k s.1 s.2 cs (cs.length : Int) (i : Int)) (fun i s => s = (runs k l (cs.take i), after k l (cs.take i))) (runs k l cs, true) ([l], l) rfl
    (by
      intro i s hi hI
      have hlen := runs_len k (cs.take i) l
      rw [List.length_take, Nat.min_eq_left (Nat.le_of_lt hi)] at hlen
      obtain ⟨out, now⟩ := s
      injection hI with hO hN
      rw [← hO] at hlen
      have hok : isSt now k = true := hN ▸ after_ok (cs.take i) l h
      have hb := isSt_iff hok
      have hx := h0 _ (List.getElem_mem hi)
      have hp := pick_ok now cs[i] hb.2.2.1
      have hn := hs_ne now hb.2.2.1
      refine .inl ⟨(out ++ [fire now k (pick now cs[i])], fire now k (pick now cs[i])), by rw [List.take_succ_eq_append_getElem hi, runs_snoc, after_snoc, ← hN, hO], fun h => ?_⟩
      refine evCall (implHolders_ev now (by omega)) (fun n hk => ?_) h
      show impl_RunFires.l0 (n + 1) k out now cs (cs.length : Int) (i : Int) = impl_RunFires.l0 n k (out ++ [fire now k (pick now cs[i])]) (fire now k (pick now cs[i])) cs (cs.length : Int) (i + 1 : Nat)
      have hm0 := Int.emod_nonneg cs[i] (show ((hs now now.length).length : Int) ≠ 0 by omega)
      have hm1 := Int.emod_lt_of_pos cs[i] (show 0 < ((hs now now.length).length : Int) by omega)
      simp only [impl_RunFires.l0]
      rw [if_pos (by omega), if_pos (by omega), if_pos (by omega), hk]
      simp only [Option.bind_some]
      rw [rd_at cs i hi, Int.tmod_eq_emod_of_nonneg hx, if_neg (by omega), if_pos hm0, if_pos hm1, hp.1, implFire_eq hok _ hp.2]
      simp only [Option.bind_some]
      rw [clone_eq _ (by rw [fire_len]; omega)]
      simp only [Option.bind_some]
      rw [if_pos (by omega), w64 (by omega) (by omega)]
      rfl)
    (by
      intro s hI
      refine evEnd fun n => ?_
      show impl_RunFires.l0 (n + 1) k s.1 s.2 cs (cs.length : Int) (cs.length : Int) = _
      simp only [impl_RunFires.l0]
      rw [if_neg (by omega), hI, List.take_length])
theorem neg_all (cs : List Int) (hw : ∀ x ∈ cs, (Lit.int .i64 x).wf = true) : cs.any isNeg = !(cs.all (inB 0 9223372036854775807)) := by
  induction cs with
  | nil => rfl
  | cons c cs ih =>
    have h1 := hw c (by simp)
    have h2 := ih (fun x hx => hw x (by simp [hx]))
    simp only [List.any_cons, List.all_cons, h2]
    have h3 : c ≤ 9223372036854775807 := by
      simp only [Lit.wf, Bool.and_eq_true, decide_eq_true_eq] at h1
      have h9 : IntKind.i64.max = 9223372036854775807 := rfl
      omega
    by_cases h4 : c < 0
    · have e1 : isNeg c = true := by simp [isNeg, h4]
      have e2 : inB 0 9223372036854775807 c = false := by
        cases hb : inB 0 9223372036854775807 c with
        | false => rfl
        | true => have := inB_iff.1 hb; omega
      simp [e1, e2]
    · have e1 : isNeg c = false := by simp [isNeg]; omega
      have e2 : inB 0 9223372036854775807 c = true := inB_iff.2 (by omega)
      simp [e1, e2]
theorem RunFires_same (l : List Int) (k : Int) (cs : List Int) (hl : l.length ≤ 1048576) (hcl : cs.length ≤ 1048576) (hw : ∀ x ∈ cs, (Lit.int .i64 x).wf = true) :
    ∃ v, Ev (fun n => spec_RunFires.f n l k cs) v ∧ Ev (fun n => impl_RunFires.f n l k cs) v ∧ v.1.length ≤ 41 ∧ ∀ r ∈ v.1, r.length ≤ 12 := by
  obtain ⟨K, e⟩ := specStates_ev l k (by omega)
  dsimp only at e
  have hbad : ∀ m, spec_RunFires.j0 (m + 1) l k cs true = some ([], false) ∧ impl_RunFires.j0 (m + 1) l k cs true = some ([], false) := by
    intro m
    rw [spec_RunFires.j0.eq_2, impl_RunFires.j0.eq_2]
    exact ⟨rfl, rfl⟩
  cases hk : isSt l k with
  | false =>
    rw [hk] at e
    refine ⟨([], false), ⟨K + 9, fun n hn => ?_⟩, ⟨9, fun n hn => ?_⟩, by simp, by simp⟩
    · obtain ⟨q, rfl⟩ : ∃ q, n = q + 1 := ⟨n - 1, by omega⟩
      simp (disch := omega) only [spec_RunFires.f, e, Option.bind_some, Bool.false_eq_true, if_false]
      exact (hbad q).1
    · obtain ⟨q, rfl⟩ : ∃ q, n = q + 1 := ⟨n - 1, by omega⟩
      simp only [impl_RunFires.f, implStates_eq, hk, Option.bind_some, Bool.false_eq_true, if_false]
      exact (hbad q).2
  | true =>
    rw [hk] at e
    have hb := isSt_iff hk
    by_cases hc : (cs.length : Int) > 40
    · refine ⟨([], false), ⟨K + 9, fun n hn => ?_⟩, ⟨9, fun n hn => ?_⟩, by simp, by simp⟩
      · obtain ⟨q, rfl⟩ : ∃ q, n = q + 1 := ⟨n - 1, by omega⟩
        simp (disch := omega) only [spec_RunFires.f, e, Option.bind_some, if_true]
        rw [if_pos hc]
        exact (hbad q).1
      · obtain ⟨q, rfl⟩ : ∃ q, n = q + 1 := ⟨n - 1, by omega⟩
        simp only [impl_RunFires.f, implStates_eq, hk, Option.bind_some, if_true]
        rw [if_pos hc]
        exact (hbad q).2
    · obtain ⟨K1, e1⟩ := l1All_ev cs 0 9223372036854775807 (by omega)
      dsimp only at e1
      have hna := neg_all cs hw
      cases ha : cs.all (inB 0 9223372036854775807) with
      | false =>
        rw [ha] at e1 hna
        refine ⟨([], false), ⟨K + K1 + 9, fun n hn => ?_⟩, ⟨9, fun n hn => ?_⟩, by simp, by simp⟩
        · obtain ⟨q, rfl⟩ : ∃ q, n = q + 1 := ⟨n - 1, by omega⟩
          simp (disch := omega) only [spec_RunFires.f, e, e1, Option.bind_some, if_true]
          rw [if_neg hc]
          exact (hbad q).1
        · obtain ⟨q, rfl⟩ : ∃ q, n = q + 1 := ⟨n - 1, by omega⟩
          simp only [impl_RunFires.f, implStates_eq, hk, anyNeg.f, hna, Option.bind_some, if_true]
          rw [if_neg hc]
          exact (hbad q).2
      | true =>
        rw [ha] at e1 hna
        have h0 : ∀ x ∈ cs, 0 ≤ x := fun x hx => (all_bound ha x hx).1
        obtain ⟨K2, e2⟩ := spec_l0_ev l k cs hk (by omega) h0
        obtain ⟨K3, e3⟩ := impl_l0_ev l k cs hk (by omega) h0
        dsimp only at e2 e3
        refine ⟨(runs k l cs, true), ⟨K + K1 + K2 + 9, fun n hn => ?_⟩, ⟨K3 + 9, fun n hn => ?_⟩, by have := runs_len k cs l; dsimp only; omega, runs_each k cs l hk⟩
        · obtain ⟨q, rfl⟩ : ∃ q, n = q + 1 := ⟨n - 1, by omega⟩
          simp (disch := omega) only [spec_RunFires.f, e, e1, Option.bind_some, if_true]
          rw [if_neg hc, spec_RunFires.j0.eq_2]
          simp only [Bool.not_true, Bool.false_eq_true, if_false]
          rw [own_eq l (by omega)]
          exact e2 q (by omega)
        · obtain ⟨q, rfl⟩ : ∃ q, n = q + 1 := ⟨n - 1, by omega⟩
          simp only [impl_RunFires.f, implStates_eq, hk, anyNeg.f, hna, Option.bind_some, if_true]
          rw [if_neg hc, impl_RunFires.j0.eq_2]
          simp only [Bool.not_true, Bool.false_eq_true, if_false]
          rw [clone_eq l (by omega)]
          simp only [Option.bind_some, List.nil_append, List.length_nil]
          rw [if_pos (by omega)]
          exact e3 q (by omega)
end Go.Proofs.Ytjfjpfgnclnehaa.X
