/- Several texts of this session in one: PlOrder, PlStructMarks, PureFnExactOrderOfStarts, Rw. -/
import Derived.Test.YtkkgnjdepgmjlaaMFnExactOrderOfStarts3
import Derived.Test.YtkkgnjdepgmjlaaMFnExactOrderOfStarts1
import Derived.Test.YtkkgnjdepgmjlaaMFnExactOrderOfStarts0
import Derived.Deep.Slices
import Derived.Deep.Fields
import Derived.ChangeSame
import Derived.Lib.SmallJoins
import Derived.SizedLaws
import Derived.ChangeSlices
/- OrderOfStarts: the program and the reference come to the same. -/
namespace Go.Proofs.Ytkkgnjdepgmjlaa.X
set_option linter.unusedSimpArgs false
set_option linter.unusedVariables false
open Go.RowKit Go.Proofs.YtkkgnjdepgmjlaaW.PrintWords
/-- Laid in ahead of the first that is not less. -/
def insB (l : List Int) (i : Int) : List Int → List Int
  | [] => [i]
  | e :: es => if rd l e < rd l i then e :: insB l i es else i :: e :: es
def soTo (l : List Int) : Nat → List Int
  | 0 => []
  | m + 1 => insB l (m : Int) (soTo l m)
theorem rd_mid (P : List Int) (e : Int) (Q : List Int) : rd (P ++ e :: Q) (P.length : Int) = e := by
  simp [rd, List.getD_eq_getElem?_getD]
theorem insB_len (l : List Int) (i : Int) : ∀ S, (insB l i S).length = S.length + 1
  | [] => rfl
  | e :: es => by
    unfold insB
    split
    · simp [insB_len l i es]
    · simp
theorem insB_mem {l : List Int} {i x : Int} : ∀ S, x ∈ insB l i S → x = i ∨ x ∈ S
  | [], h => by simp [insB] at h; exact .inl h
  | e :: es, h => by
    unfold insB at h
    split at h
    · rcases List.mem_cons.1 h with h | h
      · exact .inr (by simp [h])
      · rcases insB_mem es h with h | h
        · exact .inl h
        · exact .inr (by simp [h])
    · rcases List.mem_cons.1 h with h | h
      · exact .inl h
      · exact .inr h
theorem insB_less {l : List Int} {i : Int} (T : List Int) : ∀ S, (∀ x ∈ S, rd l x < rd l i) → insB l i (S ++ T) = S ++ insB l i T
  | [], _ => rfl
  | e :: es, h => by
    show insB l i (e :: (es ++ T)) = e :: (es ++ insB l i T)
    rw [insB, if_pos (h e (by simp)), insB_less T es (fun x hx => h x (by simp [hx]))]
theorem insB_snoc {l : List Int} {i e : Int} (h : ¬ rd l e < rd l i) : ∀ S, insB l i (S ++ [e]) = insB l i S ++ [e]
  | [] => by simp [insB, h]
  | a :: es => by
    show insB l i (a :: (es ++ [e])) = insB l i (a :: es) ++ [e]
    rw [insB, insB]
    by_cases ha : rd l a < rd l i
    · rw [if_pos ha, if_pos ha, insB_snoc h es]; rfl
    · rw [if_neg ha, if_neg ha]; rfl
theorem insB_sorted {l : List Int} {i : Int} : ∀ S, S.Pairwise (fun a b => rd l a < rd l b) → (∀ x ∈ S, rd l x ≠ rd l i) → (insB l i S).Pairwise (fun a b => rd l a < rd l b)
  | [], _, _ => by simp [insB]
  | e :: es, hp, hd => by
    obtain ⟨h1, h2⟩ := List.pairwise_cons.1 hp
    unfold insB
    by_cases h : rd l e < rd l i
    · rw [if_pos h]
      refine List.pairwise_cons.2 ⟨fun x hx => ?_, insB_sorted es h2 (fun x hx => hd x (by simp [hx]))⟩
      rcases insB_mem es hx with hx | hx
      · rw [hx]; exact h
      · exact h1 x hx
    · rw [if_neg h]
      have h3 := hd e (by simp)
      refine List.pairwise_cons.2 ⟨fun x hx => ?_, hp⟩
      rcases List.mem_cons.1 hx with hx | hx
      · rw [hx]; omega
      · have := h1 x hx; omega
theorem soTo_mem {l : List Int} {x : Int} : ∀ m, x ∈ soTo l m → ∃ j : Nat, j < m ∧ x = (j : Int)
  | 0, h => by simp [soTo] at h
  | m + 1, h => by
    rcases insB_mem _ h with h | h
    · exact ⟨m, by omega, h⟩
    · obtain ⟨j, h1, h2⟩ := soTo_mem m h
      exact ⟨j, by omega, h2⟩
theorem soTo_len (l : List Int) : ∀ m, (soTo l m).length = m
  | 0 => rfl
  | m + 1 => by rw [soTo, insB_len, soTo_len l m]
theorem soTo_sorted {l : List Int} {n : Nat} (hd : ∀ a b : Nat, a < n → b < n → a ≠ b → rd l (a : Int) ≠ rd l (b : Int)) : ∀ m, m ≤ n → (soTo l m).Pairwise (fun a b => rd l a < rd l b) ∧ ∀ x ∈ soTo l m, m < n → rd l x ≠ rd l (m : Int)
  | 0, _ => by simp [soTo]
  | m + 1, hm => by
    obtain ⟨h1, h2⟩ := soTo_sorted hd m (by omega)
    refine ⟨insB_sorted _ h1 (fun x hx => h2 x hx (by omega)), fun x hx hlt => ?_⟩
    obtain ⟨j, h3, h4⟩ := soTo_mem (m + 1) hx
    rw [h4]
    exact hd j (m + 1) (by omega) hlt (by omega)
theorem set_mid (P : List Int) (a x : Int) (Q : List Int) : (P ++ a :: Q).set P.length x = P ++ x :: Q := by
  induction P with
  | nil => rfl
  | cons b P ih => simp [ih]
theorem swap_mid (P : List Int) (e i : Int) (T : List Int) : swapN (P ++ e :: i :: T) P.length = P ++ i :: e :: T := by
  have h1 := rd_mid P e (i :: T)
  have h2 := rd_mid (P ++ [e]) i T
  have h3 := set_mid (P ++ [e]) i e T
  rw [List.append_assoc, List.length_append] at h2 h3
  simp only [List.length_cons, List.length_nil, List.cons_append, List.nil_append, Nat.zero_add] at h2 h3
  unfold swapN
  rw [h1, h2, h3]
  rw [List.append_assoc]
  exact set_mid P e i (e :: T)
theorem insIn_ins {l : List Int} {i : Int} : ∀ (n : Nat) (S T : List Int), S.length = n → S.Pairwise (fun a b => rd l a < rd l b) → (∀ x ∈ S, rd l x ≠ rd l i) → insIn l n (S ++ i :: T) = insB l i S ++ T
  | 0, S, T, hS, _, _ => by
    have := List.length_eq_zero_iff.1 hS
    subst this
    rfl
  | n + 1, S, T, hS, hp, hd => by
    have hne : S ≠ [] := by rintro rfl; simp at hS
    obtain ⟨P, e, rfl⟩ : ∃ P e, S = P ++ [e] := ⟨S.dropLast, S.getLast hne, (List.dropLast_concat_getLast hne).symm⟩
    have hn : P.length = n := by simpa using hS
    have h1 := rd_mid P e (i :: T)
    have h2 := rd_mid (P ++ [e]) i T
    rw [List.append_assoc, List.length_append] at h2
    simp only [List.length_cons, List.length_nil, List.cons_append, List.nil_append, Nat.zero_add] at h2
    rw [hn] at h1 h2
    obtain ⟨hp1, _, hp3⟩ := List.pairwise_append.1 hp
    have he := hd e (by simp)
    rw [List.append_assoc, List.cons_append, List.nil_append, insIn, h1, h2]
    by_cases hc : rd l i < rd l e
    · rw [if_pos hc, ← hn, swap_mid, hn, insIn_ins n P (e :: T) hn hp1 (fun x hx => hd x (by simp [hx])), insB_snoc (by omega), List.append_assoc]
      rfl
    · rw [if_neg hc]
      have := insB_less (l := l) (i := i) [] (P ++ [e]) (fun x hx => by
        rcases List.mem_append.1 hx with hx | hx
        · have := hp3 x hx e (by simp); omega
        · simp at hx; rw [hx]; omega)
      rw [List.append_nil] at this
      rw [this, insB]
      simp
theorem range_drop (n m : Nat) (h : m < n) : (rangeI n).drop m = (m : Int) :: (rangeI n).drop (m + 1) := by
  have hl := rangeI_len n
  rw [List.drop_eq_getElem_cons (by omega)]
  congr 1
  simp [rangeI]
theorem insTo_so {l : List Int} {n : Nat} (hd : ∀ a b : Nat, a < n → b < n → a ≠ b → rd l (a : Int) ≠ rd l (b : Int)) : ∀ m, m + 1 ≤ n → insTo l (rangeI n) m = soTo l (m + 1) ++ (rangeI n).drop (m + 1)
  | 0, h => by
    have h1 := range_drop n 0 (by omega)
    rw [List.drop_zero] at h1
    show rangeI n = _
    rw [h1]
    rfl
  | m + 1, h => by
    obtain ⟨h1, h2⟩ := soTo_sorted hd (m + 1) (by omega)
    rw [insTo, insTo_so hd m (by omega), range_drop n (m + 1) (by omega), insIn_ins (m + 1) (soTo l (m + 1)) _ (soTo_len l _) h1 (fun x hx => h2 x hx (by omega))]
    rfl
theorem insTo_all {l : List Int} {n : Nat} (hd : ∀ a b : Nat, a < n → b < n → a ≠ b → rd l (a : Int) ≠ rd l (b : Int)) : insTo l (rangeI n) (n - 1) = soTo l n := by
  cases n with
  | zero => rfl
  | succ n =>
    rw [Nat.add_sub_cancel, insTo_so hd n (by omega), List.drop_eq_nil_of_le (by rw [rangeI_len]; omega), List.append_nil]
theorem ownO (l : List Int) (h : l.length < 1000) : spec_l1Own.f l = some l := by
  unfold spec_l1Own.f
  simp
  omega
theorem order_l1 (st : List Int) (i : Nat) (n : Int) (hi : i < st.length) (v : List Int × Bool) :
    ∀ (Q P : List Int), (P ++ Q).length ≤ 100 → (∀ x ∈ P ++ Q, 0 ≤ x ∧ x < (st.length : Int)) → Ev (fun k => spec_OrderOfStarts.l0 k st (P ++ insB st (i : Int) Q) n (wrap64 ((i : Int) + 1))) v → Ev (fun k => spec_OrderOfStarts.l1 k st (P ++ Q) (i : Int) (P.length : Int) n (i : Int)) v
  | [], P, hl, hm, h => by
    refine evNext (fun k => ?_) h
    show spec_OrderOfStarts.l1 (k + 1) st (P ++ []) (i : Int) (P.length : Int) n (i : Int) = spec_OrderOfStarts.l0 k st (P ++ insB st (i : Int) []) n (wrap64 ((i : Int) + 1))
    rw [List.append_nil] at hl ⊢
    simp only [spec_OrderOfStarts.l1]
    rw [if_neg (by omega), if_pos (by omega), if_pos (by omega), Int.toNat_natCast, List.take_length, ownO P (by omega), Option.bind_some, if_pos (by omega), Option.bind_some, Option.bind_some, List.drop_length, if_pos (by simp; omega), List.append_nil]
    rfl
  | e :: Q, P, hl, hm, h => by
    have hP : P.length < (P ++ e :: Q).length := by simp
    have he := hm e (by simp)
    by_cases hc : rd st e < rd st (i : Int)
    · have ih := order_l1 st i n hi v Q (P ++ [e]) (by simpa using hl) (fun x hx => hm x (by simpa using hx)) (by
        rw [insB, if_pos hc] at h
        simpa using h)
      refine evNext (fun k => ?_) ih
      show spec_OrderOfStarts.l1 (k + 1) st (P ++ e :: Q) (i : Int) (P.length : Int) n (i : Int) = spec_OrderOfStarts.l1 k st (P ++ [e] ++ Q) (i : Int) ((P ++ [e]).length : Int) n (i : Int)
      simp only [spec_OrderOfStarts.l1, rd_mid]
      rw [if_pos (by omega), if_pos (by omega), if_pos (by omega), if_pos (by omega), if_pos (by omega), if_pos (by omega), if_pos hc, w64 (by omega) (by omega)]
      simp
    · refine evNext (fun k => ?_) h
      show spec_OrderOfStarts.l1 (k + 1) st (P ++ e :: Q) (i : Int) (P.length : Int) n (i : Int) = spec_OrderOfStarts.l0 k st (P ++ insB st (i : Int) (e :: Q)) n (wrap64 ((i : Int) + 1))
      simp only [spec_OrderOfStarts.l1, rd_mid]
      have hdl : (List.drop P.length (P ++ e :: Q)) = e :: Q := by simp
      have htl : (List.take P.length (P ++ e :: Q)) = P := by simp
      rw [if_pos (by omega), if_pos (by omega), if_pos (by omega), if_pos (by omega), if_pos (by omega), if_pos (by omega), if_neg hc, if_pos (by omega), Int.toNat_natCast, htl, ownO P (by omega), Option.bind_some, if_pos (by omega), Option.bind_some, Option.bind_some, hdl, if_pos (by simp at hl ⊢; omega), insB, if_neg hc]
      simp
theorem order_spec (st : List Int) (hn : st.length ≤ 20) : Ev (fun k => spec_OrderOfStarts.l0 k st [] (st.length : Int) 0) (soTo st st.length, true) := by
  have key := evUp0 st.length (fun k (s : List Int) (i : Nat) => spec_OrderOfStarts.l0 k st s (st.length : Int) (i : Int)) (fun i s => s = soTo st i) (soTo st st.length, true) [] rfl
    (by
      intro i s hi hI
      subst hI
      refine .inl ⟨soTo st (i + 1), rfl, fun h => ?_⟩
      have h1 := order_l1 st i (st.length : Int) hi (soTo st st.length, true) (soTo st i) [] (by rw [List.nil_append, soTo_len]; omega) (fun x hx => by
        obtain ⟨j, h1, h2⟩ := soTo_mem i (by simpa using hx)
        omega) (by rw [w64 (by omega) (by omega)]; exact h)
      refine evNext (fun k => ?_) h1
      show spec_OrderOfStarts.l0 (k + 1) st (soTo st i) (st.length : Int) (i : Int) = spec_OrderOfStarts.l1 k st ([] ++ soTo st i) (i : Int) (([] : List Int).length : Int) (st.length : Int) (i : Int)
      simp only [spec_OrderOfStarts.l0]
      rw [if_pos (by omega)]
      rfl)
    (by
      intro s hI
      refine evEnd fun k => ?_
      show spec_OrderOfStarts.l0 (k + 1) st s (st.length : Int) (st.length : Int) = _
      simp only [spec_OrderOfStarts.l0]
      rw [if_neg (by omega), hI])
  exact key
theorem sched_ne {J : List S43} {st : List Int} (hg : isGiven J st = true) (hs : schedTo J st st.length = true) (a b : Nat) (ha : a < st.length) (hb : b < a) : rd st (a : Int) ≠ rd st (b : Int) := by
  obtain ⟨hJ, hlen, hst⟩ := isGiven_at hg
  obtain ⟨hJl, hJa⟩ := isJobs_at hJ
  intro he
  have h1 := schedTo_at st.length hs a ha
  unfold schedAt at h1
  simp only [Bool.and_eq_true] at h1
  have hca : clash J st a b = true := by
    have := hJa a (by omega)
    have := hJa b (by omega)
    unfold clash
    simp only [Bool.and_eq_true, decide_eq_true_eq]
    omega
  have := quiet_false J st a b hca a hb
  rw [this] at h1
  exact absurd h1.2 (by decide)
theorem OrderOfStarts_same (L : List S45) (st : List Int) (h : (L.length ≤ maxLen ∧ (∀ x ∈ L, (Lit.int .i64 x.f0).wf = true ∧ (Lit.int .i64 x.f1).wf = true ∧ (Lit.int .i64 x.f2).wf = true) ∧ st.length ≤ maxLen ∧ st.length * 8 ≤ 140737488351232 ∧ (∀ x ∈ st, (Lit.int .i64 x).wf = true) ∧ (st.length ≤ 1048576 ∧ L.length ≤ 1048576))) :
    ∃ v, Ev (fun k => spec_OrderOfStarts.f k (toL L) st) v ∧ Ev (fun k => impl_OrderOfStarts.f k (toL L) st) v ∧ v.1.length ≤ 1000000 := by
  have htl := toL_length L
  generalize toL L = J at htl ⊢
  obtain ⟨K1, e1⟩ := specGiven_ev J st (by omega) h.2.2.2.2.2.1
  obtain ⟨K2, e2⟩ := implGiven_ev J st (by omega)
  dsimp only at e1 e2
  cases hg : isGiven J st with
  | false =>
    rw [hg] at e1 e2
    refine ⟨([], false), ⟨K1 + 9, fun n hn => ?_⟩, ⟨K2 + 9, fun n hn => ?_⟩, by simp⟩
    · obtain ⟨m, rfl⟩ : ∃ m, n = m + 1 := ⟨n - 1, by omega⟩
      simp (disch := omega) [spec_OrderOfStarts.f, spec_OrderOfStarts.j0, e1]
    · simp (disch := omega) [impl_OrderOfStarts.f, e2]
  | true =>
    rw [hg] at e1 e2
    obtain ⟨K3, e3⟩ := specSched_ev hg
    obtain ⟨K4, e4⟩ := implSched_ev hg
    dsimp only at e3 e4
    cases hs : schedTo J st st.length with
    | false =>
      rw [hs] at e3 e4
      refine ⟨([], false), ⟨K1 + K3 + 9, fun n hn => ?_⟩, ⟨K2 + K4 + 9, fun n hn => ?_⟩, by simp⟩
      · obtain ⟨m, rfl⟩ : ∃ m, n = m + 1 := ⟨n - 1, by omega⟩
        simp (disch := omega) [spec_OrderOfStarts.f, spec_OrderOfStarts.j0, e1, e3]
      · simp (disch := omega) [impl_OrderOfStarts.f, e2, e4]
    | true =>
      rw [hs] at e3 e4
      obtain ⟨hJ, hlen, hst⟩ := isGiven_at hg
      have hn20 := (isJobs_at hJ).1
      have h20 : st.length ≤ 20 := by omega
      obtain ⟨K5, e5⟩ := order_spec st h20
      have hall := insTo_all (l := st) (n := st.length) (fun a b ha hb hab => by
        rcases Nat.lt_or_gt_of_ne hab with hlt | hlt
        · exact fun e => sched_ne hg hs b a hb hlt e.symm
        · exact sched_ne hg hs a b ha hlt)
      dsimp only at e5
      refine ⟨(soTo st st.length, true), ⟨K1 + K3 + K5 + 9, fun n hn => ?_⟩, ⟨K2 + K4 + 9, fun n hn => ?_⟩, by rw [soTo_len]; omega⟩
      · obtain ⟨m, rfl⟩ : ∃ m, n = m + 1 := ⟨n - 1, by omega⟩
        simp (disch := omega) only [spec_OrderOfStarts.f, e1, e3, Option.bind_some, if_true, Bool.not_true]
        rw [spec_OrderOfStarts.j0, if_neg (by decide), ← hlen]
        exact e5 m (by omega)
      · simp (disch := omega) only [impl_OrderOfStarts.f, e2, e4, h20, hall, Option.bind_some, if_true]
end Go.Proofs.Ytkkgnjdepgmjlaa.X

/- Plain lemmas: the laws' marks on slices of Jobs. -/
namespace Go.Proofs.Ytkkgnjdepgmjlaa.X
set_option linter.unusedSimpArgs false
set_option linter.unusedVariables false
open Go.RowKit Go.Proofs.YtkkgnjdepgmjlaaW.PrintWords
def marksS (n : Nat) (a : Int) : List S43 := (List.range n).map (fun (j : Nat) => ⟨a + 3 * (j : Int), a + 3 * (j : Int) + 1, a + 3 * (j : Int) + 2⟩)
theorem marksS_length (n : Nat) (a : Int) : (marksS n a).length = n := by simp [marksS]
theorem markS_ev (l : List S43) (a : Int) (h0 : 0 ≤ a ∧ a ≤ 1000000) (h1 : l.length ≤ 1048576) : Ev (fun k => laws_markJobS.f k l a) (a + 3 * (l.length : Int), marksS l.length a) := by
  have key := evUp0 l.length (fun k (s : List S43) (i : Nat) => laws_markJobS.l0 k s (a + 3 * (i : Int)) (i : Int)) (fun i s => s = (marksS l.length a).take i ++ l.drop i) (a + 3 * (l.length : Int), marksS l.length a) l (by simp)
    (by
      intro i s hi hI
      have hsl : s.length = l.length := by rw [hI]; simp [marksS_length]; omega
      refine .inl ⟨(marksS l.length a).take (i + 1) ++ l.drop (i + 1), rfl, fun h => evNext (fun k => ?_) h⟩
      show laws_markJobS.l0 (k + 1) s (a + 3 * (i : Int)) (i : Int) = laws_markJobS.l0 k _ (a + 3 * ((i + 1 : Nat) : Int)) (i + 1 : Nat)
      simp only [laws_markJobS.l0, Option.bind_some]
      rw [if_pos (by omega), if_pos (by omega)]
      simp (disch := omega) only [w64, Int.toNat_natCast]
      rw [rdS_at s i (by omega), rdS_at _ i (by simp; omega), rdS_at _ i (by simp; omega)]
      simp only [List.getElem_set_self, List.set_set]
      congr 1
      · subst hI
        have hm : i < (marksS l.length a).length := by rw [marksS_length]; exact hi
        rw [List.take_succ_eq_append_getElem hm, List.append_assoc, List.set_append_right _ _ (by simp; omega)]
        congr 1
        have e1 : (List.take i (marksS l.length a)).length = i := by simp [marksS_length]; omega
        rw [e1, Nat.sub_self, List.drop_eq_getElem_cons hi, List.set_cons_zero]
        simp only [marksS, List.getElem_map, List.getElem_range]
        show _ = [_] ++ _
        rw [List.singleton_append]
        congr 2
        omega
      · omega)
    (by
      intro s hI
      refine evEnd fun k => ?_
      show laws_markJobS.l0 (k + 1) s (a + 3 * ((l.length : Nat) : Int)) ((l.length : Nat) : Int) = _
      have hsl : s.length = l.length := by rw [hI]; simp [marksS_length]
      simp only [laws_markJobS.l0]
      rw [if_neg (by omega), hI, List.take_of_length_le (by rw [marksS_length]; exact Nat.le_refl _)]
      simp)
  refine Ev.congr (fun k => ?_) key
  unfold laws_markJobS.f
  simp
end Go.Proofs.Ytkkgnjdepgmjlaa.X

/- OrderOfStarts answers as the reference does, for every input: the pure statement. -/
namespace Go.Proofs.Ytkkgnjdepgmjlaa.Pure
set_option linter.unusedSimpArgs false
set_option linter.unusedVariables false
set_option linter.unusedSimpArgs false
open Go.RowKit Go.Proofs.Ytkkgnjdepgmjlaa.X Go.Proofs.YtkkgnjdepgmjlaaW.PrintWords Go.Proofs.YtkkgnjdepgmjlaaW.PrintLast
set_option maxHeartbeats 1000000 in
theorem FnExactOrderOfStarts : ∀ (l0 : List S45) (l1 : List Int), l0.length ≤ maxLen → (∀ x ∈ l0, (Lit.int .i64 x.f0).wf = true ∧ (Lit.int .i64 x.f1).wf = true ∧ (Lit.int .i64 x.f2).wf = true) → l1.length ≤ maxLen → l1.length * 8 ≤ 140737488351232 → (∀ x ∈ l1, (Lit.int .i64 x).wf = true) → ∃ k, laws_FnExactOrderOfStarts.f k l0 l1 = some true := by
  intro l0 l1 h0_ h1_ h2_ h3_ h4_
  by_cases hb0 : (l1.length : Int) > 1048576
  · exact ⟨9, by simp [laws_FnExactOrderOfStarts.f, hb0]⟩
  by_cases hs : 1048576 < l0.length
  · exact ⟨9, by simp [laws_FnExactOrderOfStarts.f, hb0, sz_big l0 (by omega) (by unfold maxLen at *; omega)]⟩
  have hm : l1.length ≤ 1048576 ∧ l0.length ≤ 1048576 := ⟨by omega, by omega⟩
  obtain ⟨⟨r, b⟩, hS, hI, hr⟩ := OrderOfStarts_same l0 l1 (by first | exact ⟨h0_, h1_, h2_, h3_, h4_, hm⟩ | trivial)
  obtain ⟨K1, e1⟩ := hS
  obtain ⟨K2, e2⟩ := hI
  obtain ⟨K3, e3⟩ := toIntS_ev l1 (by omega)
  obtain ⟨K4, e4⟩ := eqIntS_ev l1 l1 (by omega)
  dsimp only at hr
  obtain ⟨K5, e5⟩ := eqIntS_ev r r (by omega)
  obtain ⟨K6, e6⟩ := markIntS_ev r 1 (by omega) (by omega)
  obtain ⟨K7, e7⟩ := heldIntS_ev r.length 1 (by omega) (by omega)
  have htl_l0 := toL_length l0
  obtain ⟨K8, e8⟩ := markS_ev (toL l0) (1) (by omega) (by omega)
  obtain ⟨K9, e9⟩ := markIntS_ev l1 (1 + 3 * ((toL l0).length : Int)) (by omega) (by omega)
  have n_k : ¬ (1 + 3 * ((toL l0).length : Int) + (l1.length : Int) < 0) := by omega
  have n_r : ¬ (1 + (r.length : Int) < 0) := by omega
  have es_l0 := sz_small l0 (by omega)
  have ns_l0 : ¬ (1048576 - (l0.length : Int) < 0) := by omega
  obtain ⟨K10, e10⟩ := toS_ev l0 (by omega)
  -- structs
  obtain ⟨K11, e11⟩ := eqS_ev (toL l0) (by rw [toL_length]; omega)
  dsimp only at e1 e2 e3 e4 e5 e6 e7 e8 e9 e10 e11
  refine ⟨K1 + K2 + K3 + K4 + K5 + K6 + K7 + K8 + K9 + K10 + K11 + 9, ?_⟩
  simp (disch := omega) only [laws_FnExactOrderOfStarts.f, e1, e2, e3, e4, e5, e6, e7, e8, e9, e10, e11, es_l0, hb0, n_k, n_r, ns_l0, Option.bind_some, eq_self, decide_true, bne_self_eq_false, Bool.false_eq_true, Bool.not_true, Bool.not_false, ↓reduceIte]
  all_goals (try rw [laws_FnExactOrderOfStarts.j0.eq_2])
  all_goals (try simp (disch := omega) only [laws_FnExactOrderOfStarts.f, e1, e2, e3, e4, e5, e6, e7, e8, e9, e10, e11, es_l0, hb0, n_k, n_r, ns_l0, Option.bind_some, eq_self, decide_true, bne_self_eq_false, Bool.false_eq_true, Bool.not_true, Bool.not_false, ↓reduceIte])
  all_goals (try rw [laws_FnExactOrderOfStarts.j1.eq_2])
  all_goals (try simp (disch := omega) only [laws_FnExactOrderOfStarts.f, e1, e2, e3, e4, e5, e6, e7, e8, e9, e10, e11, es_l0, hb0, n_k, n_r, ns_l0, Option.bind_some, eq_self, decide_true, bne_self_eq_false, Bool.false_eq_true, Bool.not_true, Bool.not_false, ↓reduceIte])
  all_goals (try rw [laws_FnExactOrderOfStarts.j2.eq_2])
  all_goals (try simp (disch := omega) only [laws_FnExactOrderOfStarts.f, e1, e2, e3, e4, e5, e6, e7, e8, e9, e10, e11, es_l0, hb0, n_k, n_r, ns_l0, Option.bind_some, eq_self, decide_true, bne_self_eq_false, Bool.false_eq_true, Bool.not_true, Bool.not_false, ↓reduceIte])
end Go.Proofs.Ytkkgnjdepgmjlaa.Pure

/- Plain lemmas for the rows: a slice of structs of three whole numbers that came in, opened to cells. -/
namespace Go.Proofs.Ytkkgnjdepgmjlaa.Rw
open Go.ChangeShapes Go.WideShapes Go.Deep Go.RowKit
section
variable {H : Type} {enc : TypeId × Value → H} {P : Program} {w : World} {base : Nat} {spare : Nat → Bool} {held : Bool}
def numAt (w : World) (a : Addr) : Int := match w.cell? a with
  | some (.int _ n) => n
  | _ => 0
theorem open_rows3 {t e : TypeId} {f0 f1 f2 : Field} {fuel : Nat} {A : Option Addr} {len cap : Nat} {x : DataW H × List MemPlace} (ht : P.underlying t = some (.slice e)) (he : P.underlying e = some (.struct #[f0, f1, f2]))
    (hone : oneCellFields P #[f0, f1, f2] = true) (hC : P.cellsOf e = 3) (h0 : P.underlying f0.type = some (.int .i64)) (h1 : P.underlying f1.type = some (.int .i64)) (h2 : P.underlying f2.type = some (.int .i64))
    (h : DataW.trod enc P w base spare held fuel t [.slice A len cap] = some x) :
    len ≤ cap ∧ len ≤ 9223372036854775807 ∧ ∃ l : List (Int × Int × Int), l.length = len ∧ (∀ p ∈ l, (Lit.int .i64 p.1).wf = true ∧ (Lit.int .i64 p.2.1).wf = true ∧ (Lit.int .i64 p.2.2).wf = true) ∧
      (0 < len → ∃ ad, A = some ad ∧ ∀ j p, l[j]? = some p → w.cell? (ad.add (j * 3 + 0)) = some (.int .i64 p.1) ∧ w.cell? (ad.add (j * 3 + 1)) = some (.int .i64 p.2.1) ∧ w.cell? (ad.add (j * 3 + 2)) = some (.int .i64 p.2.2)) := by
  rcases open_slice ht h with ⟨hcs, _⟩ | ⟨a, len', cap', m, n, D, Pl, hcs, hb, hl, hm, hmm, hx, hi⟩
  · injection hcs with hcs
    injection hcs with ha hl hc
    subst ha hl hc
    exact ⟨Nat.le_refl _, by omega, [], rfl, by simp, fun h => absurd h (by omega)⟩
  · injection hcs with hcs
    injection hcs with ha hl' hc'
    subst ha hl' hc'
    have hml : len ≤ m := by rw [hmm]; split <;> omega
    have key : ∀ i, i < len → ∃ n0 n1 n2 : Int, w.cell? (a.add (i * 3 + 0)) = some (.int .i64 n0) ∧ w.cell? (a.add (i * 3 + 1)) = some (.int .i64 n1) ∧ w.cell? (a.add (i * 3 + 2)) = some (.int .i64 n2) ∧
        (Lit.int .i64 n0).wf = true ∧ (Lit.int .i64 n1).wf = true ∧ (Lit.int .i64 n2).wf = true := by
      intro i hil
      obtain ⟨cs', hc, ht'⟩ := hi i (by omega)
      rw [hC] at hc
      obtain ⟨ys, n', hn', hy, hlen, hyl, hf⟩ := DataW.trod_struct he ht'
      obtain ⟨_, hcl, hat⟩ := World.cells?_some hc
      have one : ∀ (j : Nat) (f : Field), j < 3 → (#[f0, f1, f2] : Array Field)[j]? = some f → P.underlying f.type = some (.int .i64) → ∃ n0 : Int, w.cell? (a.add (i * 3 + j)) = some (.int .i64 n0) ∧ (Lit.int .i64 n0).wf = true := by
        intro j f hj3 hj hu
        obtain ⟨ho, hk⟩ := hone_of hone j f hj
        have hcell := hat j hj3
        have hv : cs'[j]? = some (cs'[j]'(by omega)) := List.getElem?_eq_getElem (by omega)
        have g1 := hf j f hj
        rw [ho, hk] at g1
        have hone' : (cs'.drop j).take 1 = [cs'[j]'(by omega)] := by
          rw [List.drop_eq_getElem_cons (by omega)]
          rfl
        rw [hone'] at g1
        have hys : ys[j]? = some (ys[j]'(by simp at hyl; omega)) := List.getElem?_eq_getElem (by simp at hyl; omega)
        obtain ⟨n0, e0, _, wf0⟩ := DataW.trod_int hu (g1.trans hys)
        refine ⟨n0, ?_, wf0⟩
        rw [← Go.Deep.add_add, hcell, hv]
        injection e0 with e0
        rw [e0]
      obtain ⟨n0, c0, w0⟩ := one 0 f0 (by omega) rfl h0
      obtain ⟨n1, c1, w1⟩ := one 1 f1 (by omega) rfl h1
      obtain ⟨n2, c2, w2⟩ := one 2 f2 (by omega) rfl h2
      exact ⟨n0, n1, n2, c0, c1, c2, w0, w1, w2⟩
    refine ⟨hl, by unfold maxLen at hm; omega, (List.range len).map (fun i => (numAt w (a.add (i * 3 + 0)), numAt w (a.add (i * 3 + 1)), numAt w (a.add (i * 3 + 2)))), by simp, ?_, fun _ => ⟨a, rfl, ?_⟩⟩
    · intro p hp
      obtain ⟨i, hir, rfl⟩ := List.mem_map.1 hp
      obtain ⟨n0, n1, n2, c0, c1, c2, w0, w1, w2⟩ := key i (List.mem_range.1 hir)
      simp only [numAt, c0, c1, c2]
      exact ⟨w0, w1, w2⟩
    · intro j p hj
      obtain ⟨hjl, hp⟩ := List.getElem?_eq_some_iff.1 hj
      have hjl' : j < len := by simpa using hjl
      obtain ⟨n0, n1, n2, c0, c1, c2, w0, w1, w2⟩ := key j hjl'
      have : p = (n0, n1, n2) := by
        rw [← hp]
        simp only [List.getElem_map, List.getElem_range, numAt, c0, c1, c2]
      subst this
      exact ⟨c0, c1, c2⟩
end
end Go.Proofs.Ytkkgnjdepgmjlaa.Rw
