/- IsBusySchedule: the program and the reference come to the same. -/
import Derived.Test.YtkkgnjdepgmjlaaPlSched
import Derived.Test.YtkkgnjdepgmjlaaX17
import Derived.Test.YtkkgnjdepgmjlaaX16
import Derived.Test.YtkkgnjdepgmjlaaX18
namespace Go.Proofs.Ytkkgnjdepgmjlaa.X
set_option linter.unusedSimpArgs false
set_option linter.unusedVariables false
open Go.RowKit Go.Proofs.YtkkgnjdepgmjlaaW.PrintWords
def anyTo (p : Nat → Bool) : Nat → Bool
  | 0 => false
  | n + 1 => anyTo p n || p n
theorem anyTo_iff (p : Nat → Bool) : ∀ n, anyTo p n = true ↔ ∃ i, i < n ∧ p i = true
  | 0 => by simp [anyTo]
  | n + 1 => by
    simp only [anyTo, Bool.or_eq_true, anyTo_iff p n]
    constructor
    · rintro (⟨i, h1, h2⟩ | h)
      · exact ⟨i, by omega, h2⟩
      · exact ⟨n, by omega, h⟩
    · rintro ⟨i, h1, h2⟩
      by_cases e : i = n
      · subst e
        exact .inr h2
      · exact .inl ⟨i, by omega, h2⟩
theorem anyTo_true (p : Nat → Bool) (n m : Nat) (h : p n = true) (hm : n < m) : anyTo p m = true := (anyTo_iff p m).2 ⟨n, hm, h⟩
/-- Job i has the line at a tick. -/
def hasLine (J : List S43) (st : List Int) (t : Int) (i : Nat) : Bool := decide (rd st (i : Int) ≤ t) && decide (t < rd st (i : Int) + (rd_T43 J (i : Int)).f2)
def held (J : List S43) (st : List Int) (t : Int) : Bool := anyTo (hasLine J st t) st.length
theorem specHeld_ev {J : List S43} {st : List Int} (hg : isGiven J st = true) (t : Int) (ht : 0 ≤ t ∧ t ≤ 10000) : Ev (fun k => spec_prHeld.f k J st t) (held J st t) := by
  obtain ⟨hJ, hlen, hst⟩ := isGiven_at hg
  obtain ⟨hJl, hJa⟩ := isJobs_at hJ
  have key := evUp0 st.length (fun k (_ : Unit) (i : Nat) => spec_prHeld.l0 k J t st (st.length : Int) (i : Int)) (fun i _ => anyTo (hasLine J st t) i = false) (held J st t) () rfl
    (by
      intro i u hi hI
      have a1 := hst i hi
      have a2 := hJa i (by omega)
      have step : ∀ k, spec_prHeld.l0 (k + 1) J t st (st.length : Int) (i : Int) = if hasLine J st t i = true then some true else spec_prHeld.l0 k J t st (st.length : Int) ((i + 1 : Nat) : Int) := by
        intro k
        simp only [spec_prHeld.l0]
        rw [if_pos (by omega), if_pos (by omega), if_pos (by omega)]
        simp (disch := omega) only [w64]
        unfold hasLine
        by_cases c1 : rd st (i : Int) ≤ t
        · rw [if_pos c1, if_pos (by omega), decide_eq_true c1]
          by_cases c2 : t < rd st (i : Int) + (rd_T43 J (i : Int)).f2
          · rw [if_pos c2, decide_eq_true c2]
            rfl
          · rw [if_neg c2, decide_eq_false c2]
            rfl
        · rw [if_neg c1, decide_eq_false c1]
          rfl
      cases hc : hasLine J st t i with
      | true => exact .inr (evEnd fun k => by rw [step k, if_pos hc]; unfold held; rw [anyTo_true _ i st.length hc hi])
      | false => exact .inl ⟨(), by simp [anyTo, hI, hc], fun h => evNext (fun k => by rw [step k, hc]; simp) h⟩)
    (by
      intro u hI
      refine evEnd fun k => ?_
      show spec_prHeld.l0 (k + 1) J t st (st.length : Int) (st.length : Int) = _
      simp only [spec_prHeld.l0]
      rw [if_neg (by omega)]
      unfold held
      rw [hI])
  exact key
/-- Job i waits at the tick, and nobody has the line. -/
def idleAt (J : List S43) (st : List Int) (i j : Nat) : Bool := !(held J st ((rd_T43 J (i : Int)).f0 + (j : Int)))
def gap (J : List S43) (st : List Int) (i : Nat) : Bool := anyTo (idleAt J st i) (rd st (i : Int) - (rd_T43 J (i : Int)).f0).toNat
def gaps (J : List S43) (st : List Int) : Bool := anyTo (gap J st) J.length
theorem specBusy_inner {J : List S43} {st : List Int} (hg : isGiven J st = true) (hs : schedTo J st st.length = true) (i : Nat) (hi : i < J.length) (v : Bool × Bool)
    (h1 : gap J st i = true → v = (false, true)) (h2 : gap J st i = false → Ev (fun k => spec_IsBusySchedule.l0 k J st J (J.length : Int) ((i + 1 : Nat) : Int)) v) :
    Ev (fun k => spec_IsBusySchedule.l1 k J st (i : Int) (rd_T43 J (i : Int)).f0 J (J.length : Int) (i : Int)) v := by
  obtain ⟨hJ, hlen, hst⟩ := isGiven_at hg
  obtain ⟨hJl, hJa⟩ := isJobs_at hJ
  have a1 := hst i (by omega)
  have a2 := hJa i hi
  have hle : (rd_T43 J (i : Int)).f0 ≤ rd st (i : Int) := by
    have := schedTo_at st.length hs i (by omega)
    unfold schedAt at this
    simp at this
    omega
  have key := evUp0 (rd st (i : Int) - (rd_T43 J (i : Int)).f0).toNat (fun k (_ : Unit) (j : Nat) => spec_IsBusySchedule.l1 k J st (i : Int) ((rd_T43 J (i : Int)).f0 + (j : Int)) J (J.length : Int) (i : Int)) (fun j _ => anyTo (idleAt J st i) j = false) v () rfl
    (by
      intro j u hj hI
      have hh := specHeld_ev hg ((rd_T43 J (i : Int)).f0 + (j : Int)) (by omega)
      cases hc : held J st ((rd_T43 J (i : Int)).f0 + (j : Int)) with
      | false =>
        rw [hc] at hh
        have hgap : gap J st i = true := anyTo_true _ j _ (by unfold idleAt; rw [hc]; rfl) hj
        refine .inr (evCallEnd hh fun k hk => ?_)
        show spec_IsBusySchedule.l1 (k + 1) J st (i : Int) ((rd_T43 J (i : Int)).f0 + (j : Int)) J (J.length : Int) (i : Int) = _
        simp only [spec_IsBusySchedule.l1]
        rw [if_pos (by omega), if_pos (by omega), if_pos (by omega), hk, h1 hgap]
        rfl
      | true =>
        rw [hc] at hh
        refine .inl ⟨(), by simp [anyTo, hI, idleAt, hc], fun h => evCall hh (fun k hk => ?_) h⟩
        show spec_IsBusySchedule.l1 (k + 1) J st (i : Int) ((rd_T43 J (i : Int)).f0 + (j : Int)) J (J.length : Int) (i : Int) = spec_IsBusySchedule.l1 k J st (i : Int) ((rd_T43 J (i : Int)).f0 + ((j + 1 : Nat) : Int)) J (J.length : Int) (i : Int)
        simp only [spec_IsBusySchedule.l1]
        rw [if_pos (by omega), if_pos (by omega), if_pos (by omega), hk, w64 (by omega) (by omega)]
        simp only [Option.bind_some, if_true]
        congr 1
        omega)
    (by
      intro u hI
      refine evNext (fun k => ?_) (h2 hI)
      show spec_IsBusySchedule.l1 (k + 1) J st (i : Int) ((rd_T43 J (i : Int)).f0 + (((rd st (i : Int) - (rd_T43 J (i : Int)).f0).toNat : Nat) : Int)) J (J.length : Int) (i : Int) = _
      simp only [spec_IsBusySchedule.l1]
      rw [if_pos (by omega), if_pos (by omega), if_neg (by omega), w64 (by omega) (by omega)]
      rfl)
  refine Ev.congr (fun k => ?_) key
  simp
theorem specBusy_loop {J : List S43} {st : List Int} (hg : isGiven J st = true) (hs : schedTo J st st.length = true) : Ev (fun k => spec_IsBusySchedule.l0 k J st J (J.length : Int) 0) (!(gaps J st), true) := by
  obtain ⟨hJ, hlen, hst⟩ := isGiven_at hg
  obtain ⟨hJl, hJa⟩ := isJobs_at hJ
  have key := evUp0 J.length (fun k (_ : Unit) (i : Nat) => spec_IsBusySchedule.l0 k J st J (J.length : Int) (i : Int)) (fun i _ => anyTo (gap J st) i = false) (!(gaps J st), true) () rfl
    (by
      intro i u hi hI
      have step : ∀ k, spec_IsBusySchedule.l0 (k + 1) J st J (J.length : Int) (i : Int) = spec_IsBusySchedule.l1 k J st (i : Int) (rd_T43 J (i : Int)).f0 J (J.length : Int) (i : Int) := by
        intro k
        simp only [spec_IsBusySchedule.l0]
        rw [if_pos (by omega), if_pos (by omega), if_pos (by omega)]
      cases hc : gap J st i with
      | true =>
        have : gaps J st = true := anyTo_true _ i _ hc hi
        exact .inr (evNext step (specBusy_inner hg hs i hi _ (fun _ => by rw [this]; rfl) (by rw [hc]; simp)))
      | false => exact .inl ⟨(), by simp [anyTo, hI, hc], fun h => evNext step (specBusy_inner hg hs i hi _ (by rw [hc]; simp) (fun _ => h))⟩)
    (by
      intro u hI
      refine evEnd fun k => ?_
      show spec_IsBusySchedule.l0 (k + 1) J st J (J.length : Int) (J.length : Int) = _
      simp only [spec_IsBusySchedule.l0]
      rw [if_neg (by omega)]
      unfold gaps
      rw [hI]
      rfl)
  exact key
/-- Job i is there at the tick and not done. -/
def isOpen (J : List S43) (st : List Int) (t : Int) (i : Nat) : Bool := decide ((rd_T43 J (i : Int)).f0 ≤ t) && decide (t < rd st (i : Int) + (rd_T43 J (i : Int)).f2)
def loose (J : List S43) (st : List Int) (t : Nat) : Bool := anyTo (isOpen J st (t : Int)) J.length && !(anyTo (hasLine J st (t : Int)) J.length)
theorem implBusy_inner {J : List S43} {st : List Int} (hg : isGiven J st = true) (t : Nat) (ht : t < 5021) (v : Bool × Bool)
    (h1 : loose J st t = true → v = (false, true)) (h2 : loose J st t = false → Ev (fun k => impl_IsBusySchedule.l0 k J st ((t + 1 : Nat) : Int)) v) :
    Ev (fun k => impl_IsBusySchedule.l1 k J st (t : Int) false false (t : Int) J (J.length : Int) 0) v := by
  obtain ⟨hJ, hlen, hst⟩ := isGiven_at hg
  obtain ⟨hJl, hJa⟩ := isJobs_at hJ
  have key := evUp0 J.length (fun k (s : Bool × Bool) (i : Nat) => impl_IsBusySchedule.l1 k J st (t : Int) s.1 s.2 (t : Int) J (J.length : Int) (i : Int)) (fun i s => s = (anyTo (isOpen J st (t : Int)) i, anyTo (hasLine J st (t : Int)) i)) v (false, false) rfl
    (by
      rintro i ⟨x, y⟩ hi hI
      have a1 := hst i (by omega)
      have a2 := hJa i hi
      refine .inl ⟨(x || isOpen J st (t : Int) i, y || hasLine J st (t : Int) i), ?_, fun h => evNext (fun k => ?_) h⟩
      · injection hI with h1 h2
        rw [h1, h2]
        rfl
      · show impl_IsBusySchedule.l1 (k + 1) J st (t : Int) x y (t : Int) J (J.length : Int) (i : Int) = impl_IsBusySchedule.l1 k J st (t : Int) (x || isOpen J st (t : Int) i) (y || hasLine J st (t : Int) i) (t : Int) J (J.length : Int) ((i + 1 : Nat) : Int)
        have e0 : wrap64 ((i : Int) + 1) = ((i + 1 : Nat) : Int) := w64 (by omega) (by omega)
        have e1 : wrap64 (rd st (i : Int) + (rd_T43 J (i : Int)).f2) = rd st (i : Int) + (rd_T43 J (i : Int)).f2 := w64 (by omega) (by omega)
        simp only [impl_IsBusySchedule.l1]
        rw [if_pos (by omega), if_pos (by omega), if_pos (by omega), e0, e1]
        have p0 : (i : Int) < (st.length : Int) := by omega
        unfold isOpen hasLine
        by_cases c1 : (rd_T43 J (i : Int)).f0 ≤ (t : Int)
        · by_cases c2 : rd st (i : Int) ≤ (t : Int)
          · cases x <;> cases y <;> simp [c1, c2, p0]
          · cases x <;> cases y <;> simp [c1, c2, p0]
        · by_cases c2 : rd st (i : Int) ≤ (t : Int)
          · cases x <;> cases y <;> simp [c1, c2, p0]
          · cases x <;> cases y <;> simp [c1, c2, p0])
    (by
      rintro ⟨x, y⟩ hI
      injection hI with hx hy
      have hl : loose J st t = (x && !y) := by rw [hx, hy]; rfl
      cases x with
      | false =>
        refine evNext (fun k => ?_) (h2 (by rw [hl]; rfl))
        show impl_IsBusySchedule.l1 (k + 1) J st (t : Int) false y (t : Int) J (J.length : Int) (J.length : Int) = _
        simp only [impl_IsBusySchedule.l1]
        rw [if_neg (by omega), w64 (by omega) (by omega)]
        simp
      | true =>
        cases y with
        | true =>
          refine evNext (fun k => ?_) (h2 (by rw [hl]; rfl))
          show impl_IsBusySchedule.l1 (k + 1) J st (t : Int) true true (t : Int) J (J.length : Int) (J.length : Int) = _
          simp only [impl_IsBusySchedule.l1]
          rw [if_neg (by omega), w64 (by omega) (by omega)]
          simp
        | false =>
          refine evEnd fun k => ?_
          show impl_IsBusySchedule.l1 (k + 1) J st (t : Int) true false (t : Int) J (J.length : Int) (J.length : Int) = _
          simp only [impl_IsBusySchedule.l1]
          rw [if_neg (by omega), h1 (by rw [hl]; rfl)]
          simp)
  exact key
theorem implBusy_loop {J : List S43} {st : List Int} (hg : isGiven J st = true) : Ev (fun k => impl_IsBusySchedule.l0 k J st 0) (!(anyTo (loose J st) 5021), true) := by
  have key := evUp0 5021 (fun k (_ : Unit) (t : Nat) => impl_IsBusySchedule.l0 k J st (t : Int)) (fun t _ => anyTo (loose J st) t = false) (!(anyTo (loose J st) 5021), true) () rfl
    (by
      intro t u ht hI
      have step : ∀ k, impl_IsBusySchedule.l0 (k + 1) J st (t : Int) = impl_IsBusySchedule.l1 k J st (t : Int) false false (t : Int) J (J.length : Int) 0 := by
        intro k
        simp only [impl_IsBusySchedule.l0]
        rw [if_pos (by omega)]
      cases hc : loose J st t with
      | true => exact .inr (evNext step (implBusy_inner hg t ht _ (fun _ => by rw [anyTo_true (loose J st) t 5021 hc ht]; rfl) (by rw [hc]; simp)))
      | false => exact .inl ⟨(), by simp [anyTo, hI, hc], fun h => evNext step (implBusy_inner hg t ht _ (by rw [hc]; simp) (fun _ => h))⟩)
    (by
      intro u hI
      refine evEnd fun k => ?_
      show impl_IsBusySchedule.l0 (k + 1) J st ((5021 : Nat) : Int) = _
      simp only [impl_IsBusySchedule.l0]
      rw [if_neg (by omega), hI]
      rfl)
  exact key
theorem loose_iff {J : List S43} {st : List Int} (hg : isGiven J st = true) : anyTo (loose J st) 5021 = gaps J st := by
  obtain ⟨hJ, hlen, hst⟩ := isGiven_at hg
  obtain ⟨hJl, hJa⟩ := isJobs_at hJ
  rw [Bool.eq_iff_iff, anyTo_iff]
  unfold gaps
  rw [anyTo_iff]
  constructor
  · rintro ⟨t, ht, hl⟩
    unfold loose at hl
    simp only [Bool.and_eq_true, Bool.not_eq_true', anyTo_iff] at hl
    obtain ⟨⟨i, hi, ho⟩, hn⟩ := hl
    have a1 := hst i (by omega)
    have a2 := hJa i hi
    unfold isOpen at ho
    simp only [Bool.and_eq_true, decide_eq_true_eq] at ho
    have hnl : hasLine J st (t : Int) i = false := by
      cases hc : hasLine J st (t : Int) i with
      | false => rfl
      | true =>
        rw [anyTo_true _ i J.length hc hi] at hn
        cases hn
    unfold hasLine at hnl
    simp only [Bool.and_eq_false_iff, decide_eq_false_iff_not] at hnl
    have hts : (t : Int) < rd st (i : Int) := by omega
    refine ⟨i, hi, ?_⟩
    refine anyTo_true _ ((t : Int) - (rd_T43 J (i : Int)).f0).toNat _ ?_ (by omega)
    unfold idleAt held
    rw [show (rd_T43 J (i : Int)).f0 + ((((t : Int) - (rd_T43 J (i : Int)).f0).toNat : Nat) : Int) = (t : Int) from by omega, hlen, hn]
    rfl
  · rintro ⟨i, hi, hgp⟩
    have a1 := hst i (by omega)
    have a2 := hJa i hi
    unfold gap at hgp
    rw [anyTo_iff] at hgp
    obtain ⟨j, hj, hid⟩ := hgp
    unfold idleAt held at hid
    rw [hlen] at hid
    refine ⟨((rd_T43 J (i : Int)).f0 + (j : Int)).toNat, by omega, ?_⟩
    unfold loose
    rw [show ((((rd_T43 J (i : Int)).f0 + (j : Int)).toNat : Nat) : Int) = (rd_T43 J (i : Int)).f0 + (j : Int) from by omega, hid, Bool.and_true]
    refine anyTo_true _ i _ ?_ hi
    unfold isOpen
    simp only [Bool.and_eq_true, decide_eq_true_eq]
    omega
theorem IsBusySchedule_same (L : List S45) (st : List Int) (h : (L.length ≤ maxLen ∧ (∀ x ∈ L, (Lit.int .i64 x.f0).wf = true ∧ (Lit.int .i64 x.f1).wf = true ∧ (Lit.int .i64 x.f2).wf = true) ∧ st.length ≤ maxLen ∧ st.length * 8 ≤ 140737488351232 ∧ (∀ x ∈ st, (Lit.int .i64 x).wf = true) ∧ (st.length ≤ 1048576 ∧ L.length ≤ 1048576))) :
    ∃ v, Ev (fun k => spec_IsBusySchedule.f k (toL L) st) v ∧ Ev (fun k => impl_IsBusySchedule.f k (toL L) st) v := by
  have htl := toL_length L
  generalize toL L = J at htl ⊢
  obtain ⟨K1, e1⟩ := specGiven_ev J st (by omega) h.2.2.2.2.2.1
  obtain ⟨K2, e2⟩ := implGiven_ev J st (by omega)
  dsimp only at e1 e2
  cases hg : isGiven J st with
  | false =>
    rw [hg] at e1 e2
    refine ⟨(false, false), ⟨K1 + 9, fun n hn => ?_⟩, ⟨K2 + 9, fun n hn => ?_⟩⟩
    · simp (disch := omega) [spec_IsBusySchedule.f, e1]
    · simp (disch := omega) [impl_IsBusySchedule.f, e2]
  | true =>
    rw [hg] at e1 e2
    obtain ⟨K3, e3⟩ := specSched_ev hg
    obtain ⟨K4, e4⟩ := implSched_ev hg
    dsimp only at e3 e4
    cases hs : schedTo J st st.length with
    | false =>
      rw [hs] at e3 e4
      refine ⟨(false, true), ⟨K1 + K3 + 9, fun n hn => ?_⟩, ⟨K2 + K4 + 9, fun n hn => ?_⟩⟩
      · simp (disch := omega) [spec_IsBusySchedule.f, e1, e3]
      · simp (disch := omega) [impl_IsBusySchedule.f, e2, e4]
    | true =>
      rw [hs] at e3 e4
      obtain ⟨K5, e5⟩ := specBusy_loop hg hs
      obtain ⟨K6, e6⟩ := implBusy_loop hg
      rw [loose_iff hg] at e6
      dsimp only at e5 e6
      refine ⟨(!(gaps J st), true), ⟨K1 + K3 + K5 + 9, fun n hn => ?_⟩, ⟨K2 + K4 + K6 + 9, fun n hn => ?_⟩⟩
      · simp (disch := omega) only [spec_IsBusySchedule.f, e1, e3, e5, Option.bind_some, if_true]
      · simp (disch := omega) only [impl_IsBusySchedule.f, e2, e4, e6, Option.bind_some, if_true]
end Go.Proofs.Ytkkgnjdepgmjlaa.X
