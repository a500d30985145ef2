/- Plain lemmas: schedules. -/
import Derived.Test.YtkkgnjdepgmjlaaPlJobs
import Derived.Test.YtkkgnjdepgmjlaaX4
import Derived.Test.YtkkgnjdepgmjlaaX11
namespace Go.Proofs.Ytkkgnjdepgmjlaa.X
set_option linter.unusedSimpArgs false
set_option linter.unusedVariables false
open Go.RowKit Go.Proofs.YtkkgnjdepgmjlaaW.PrintWords
/-- Jobs i and k have the line at one time. -/
def clash (J : List S43) (st : List Int) (i k : Nat) : Bool := decide (rd st (i : Int) < rd st (k : Int) + (rd_T43 J (k : Int)).f2) && decide (rd st (k : Int) < rd st (i : Int) + (rd_T43 J (i : Int)).f2)
def quiet (J : List S43) (st : List Int) (i : Nat) : Nat → Bool
  | 0 => true
  | n + 1 => quiet J st i n && !(clash J st i n)
theorem quiet_false (J : List S43) (st : List Int) (i n : Nat) (h : clash J st i n = true) : ∀ m, n < m → quiet J st i m = false
  | 0, hm => by omega
  | m + 1, hm => by
    by_cases e : n = m
    · subst e
      simp [quiet, h]
    · simp [quiet, quiet_false J st i n h m (by omega)]
def schedAt (J : List S43) (st : List Int) (i : Nat) : Bool := !(decide (rd st (i : Int) < (rd_T43 J (i : Int)).f0)) && quiet J st i i
def schedTo (J : List S43) (st : List Int) : Nat → Bool
  | 0 => true
  | n + 1 => schedTo J st n && schedAt J st n
theorem schedTo_false (J : List S43) (st : List Int) (n : Nat) (h : schedAt J st n = false) : ∀ m, n < m → schedTo J st m = false
  | 0, hm => by omega
  | m + 1, hm => by
    by_cases e : n = m
    · subst e
      simp [schedTo, h]
    · simp [schedTo, schedTo_false J st n h m (by omega)]
theorem schedTo_at {J : List S43} {st : List Int} (n : Nat) (h : schedTo J st n = true) (i : Nat) (hi : i < n) : schedAt J st i = true := by
  cases hj : schedAt J st i with
  | true => rfl
  | false =>
    have := schedTo_false J st i hj n hi
    rw [this] at h
    cases h
theorem take_rd (l : List Int) (i j : Nat) (h : j < i) (hi : i ≤ l.length) : rd (l.take i) (j : Int) = rd l (j : Int) := by
  rw [rd_at _ j (by simp; omega), rd_at l j (by omega)]
  simp
theorem specSched_inner {J : List S43} {st : List Int} (hg : isGiven J st = true) (i : Nat) (hi : i < st.length) (v : Bool)
    (h1 : quiet J st i i = false → v = false) (h2 : quiet J st i i = true → Ev (fun k => spec_prSchedule.l0 k J st st (st.length : Int) ((i + 1 : Nat) : Int)) v) :
    Ev (fun k => spec_prSchedule.l1 k J st (i : Int) (rd st (i : Int)) st (st.length : Int) (i : Int) (st.take i) ((st.take i).length : Int) 0) v := by
  obtain ⟨hJ, hlen, hst⟩ := isGiven_at hg
  obtain ⟨hJl, hJa⟩ := isJobs_at hJ
  have htl : (st.take i).length = i := by simp; omega
  have key := evUp0 i (fun k (_ : Unit) (j : Nat) => spec_prSchedule.l1 k J st (i : Int) (rd st (i : Int)) st (st.length : Int) (i : Int) (st.take i) ((st.take i).length : Int) (j : Int)) (fun j _ => quiet J st i j = true) v () rfl
    (by
      intro j u hj hI
      have a1 := hst i hi
      have a2 := hst j (by omega)
      have a3 := hJa i (by omega)
      have a4 := hJa j (by omega)
      have step : ∀ k, spec_prSchedule.l1 (k + 1) J st (i : Int) (rd st (i : Int)) st (st.length : Int) (i : Int) (st.take i) ((st.take i).length : Int) (j : Int) = if clash J st i j = true then some false else spec_prSchedule.l1 k J st (i : Int) (rd st (i : Int)) st (st.length : Int) (i : Int) (st.take i) ((st.take i).length : Int) ((j + 1 : Nat) : Int) := by
        intro k
        simp only [spec_prSchedule.l1]
        rw [if_pos (by omega), if_pos (by omega), if_pos (by omega), if_pos (by omega), take_rd st i j hj (by omega)]
        simp (disch := omega) only [w64]
        unfold clash
        by_cases c1 : rd st (i : Int) < rd st (j : Int) + (rd_T43 J (j : Int)).f2
        · rw [if_pos c1, if_pos (by omega), if_pos (by omega), decide_eq_true c1]
          by_cases c2 : rd st (j : Int) < rd st (i : Int) + (rd_T43 J (i : Int)).f2
          · rw [if_pos c2, decide_eq_true c2]
            rfl
          · rw [if_neg c2, decide_eq_false c2]
            rfl
        · rw [if_neg c1, decide_eq_false c1]
          rfl
      cases hc : clash J st i j with
      | true => exact .inr (evEnd fun k => by rw [step k, if_pos hc, h1 (quiet_false J st i j hc i hj)])
      | false => exact .inl ⟨(), by simp [quiet, hI, hc], fun h => evNext (fun k => by rw [step k, hc]; simp) h⟩)
    (by
      intro u hI
      refine evNext (fun k => ?_) (h2 hI)
      show spec_prSchedule.l1 (k + 1) J st (i : Int) (rd st (i : Int)) st (st.length : Int) (i : Int) (st.take i) ((st.take i).length : Int) (i : Int) = _
      simp only [spec_prSchedule.l1]
      rw [if_neg (by omega), w64 (by omega) (by omega)]
      rfl)
  exact key
theorem specSched_ev {J : List S43} {st : List Int} (hg : isGiven J st = true) : Ev (fun k => spec_prSchedule.f k J st) (schedTo J st st.length) := by
  obtain ⟨hJ, hlen, hst⟩ := isGiven_at hg
  obtain ⟨hJl, hJa⟩ := isJobs_at hJ
  have key := evUp0 st.length (fun k (_ : Unit) (i : Nat) => spec_prSchedule.l0 k J st st (st.length : Int) (i : Int)) (fun i _ => schedTo J st i = true) (schedTo J st st.length) () rfl
    (by
      intro i u hi hI
      by_cases hc : rd st (i : Int) < (rd_T43 J (i : Int)).f0
      · refine .inr (evEnd fun k => ?_)
        show spec_prSchedule.l0 (k + 1) J st st (st.length : Int) (i : Int) = _
        simp only [spec_prSchedule.l0]
        rw [if_pos (by omega), if_pos (by omega), if_pos (by omega), if_pos (by omega), if_pos hc, schedTo_false J st i (by simp [schedAt, hc]) st.length hi]
      · have step : ∀ k, spec_prSchedule.l0 (k + 1) J st st (st.length : Int) (i : Int) = spec_prSchedule.l1 k J st (i : Int) (rd st (i : Int)) st (st.length : Int) (i : Int) (st.take i) ((st.take i).length : Int) 0 := by
          intro k
          simp only [spec_prSchedule.l0]
          rw [if_pos (by omega), if_pos (by omega), if_pos (by omega), if_pos (by omega), if_neg hc, if_pos (by omega), Int.toNat_natCast]
        cases hq : quiet J st i i with
        | true => exact .inl ⟨(), by simp [schedTo, schedAt, hI, hq, hc], fun h => evNext step (specSched_inner hg i hi _ (by rw [hq]; simp) (fun _ => h))⟩
        | false => exact .inr (evNext step (specSched_inner hg i hi _ (fun _ => schedTo_false J st i (by simp [schedAt, hq]) st.length hi) (by rw [hq]; simp))))
    (by
      intro u hI
      refine evEnd fun k => ?_
      show spec_prSchedule.l0 (k + 1) J st st (st.length : Int) (st.length : Int) = _
      simp only [spec_prSchedule.l0]
      rw [if_neg (by omega), hI])
  exact key
theorem implSched_inner {J : List S43} {st : List Int} (hg : isGiven J st = true) (i : Nat) (hi : i < J.length) (v : Bool)
    (h1 : quiet J st i i = false → v = false) (h2 : quiet J st i i = true → Ev (fun k => impl_isSchedule.l0 k J st J (J.length : Int) ((i + 1 : Nat) : Int)) v) (y0 y1 : Int) :
    Ev (fun k => impl_isSchedule.l1 k J st (i : Int) J (J.length : Int) (i : Int) (i : Int) 0 y0 y1 (rd_T43 J (i : Int)).f2) v := by
  obtain ⟨hJ, hlen, hst⟩ := isGiven_at hg
  obtain ⟨hJl, hJa⟩ := isJobs_at hJ
  have key := evUp0 i (fun k (_ : Unit) (j : Nat) => impl_isSchedule.l1 k J st (i : Int) J (J.length : Int) (i : Int) (i : Int) (j : Int) y0 y1 (rd_T43 J (i : Int)).f2) (fun j _ => quiet J st i j = true) v () rfl
    (by
      intro j u hj hI
      have a1 := hst i (by omega)
      have a2 := hst j (by omega)
      have a3 := hJa i (by omega)
      have a4 := hJa j (by omega)
      have step : ∀ k, impl_isSchedule.l1 (k + 1) J st (i : Int) J (J.length : Int) (i : Int) (i : Int) (j : Int) y0 y1 (rd_T43 J (i : Int)).f2 = if clash J st i j = true then some false else impl_isSchedule.l1 k J st (i : Int) J (J.length : Int) (i : Int) (i : Int) ((j + 1 : Nat) : Int) y0 y1 (rd_T43 J (i : Int)).f2 := by
        intro k
        simp only [impl_isSchedule.l1]
        rw [if_pos (by omega), if_pos (by omega), if_pos (by omega), if_pos (by omega), if_pos (by omega), if_pos (by omega)]
        simp (disch := omega) only [w64]
        unfold clash
        by_cases c1 : rd st (i : Int) < rd st (j : Int) + (rd_T43 J (j : Int)).f2
        · by_cases c2 : rd st (j : Int) < rd st (i : Int) + (rd_T43 J (i : Int)).f2
          · simp [c1, c2]
          · simp [c1, c2]
        · simp [c1]
      cases hc : clash J st i j with
      | true => exact .inr (evEnd fun k => by rw [step k, if_pos hc, h1 (quiet_false J st i j hc i hj)])
      | false => exact .inl ⟨(), by simp [quiet, hI, hc], fun h => evNext (fun k => by rw [step k, hc]; simp) h⟩)
    (by
      intro u hI
      refine evNext (fun k => ?_) (h2 hI)
      show impl_isSchedule.l1 (k + 1) J st (i : Int) J (J.length : Int) (i : Int) (i : Int) (i : Int) y0 y1 (rd_T43 J (i : Int)).f2 = _
      simp only [impl_isSchedule.l1]
      rw [if_neg (by omega), w64 (by omega) (by omega)]
      rfl)
  exact key
theorem implSched_ev {J : List S43} {st : List Int} (hg : isGiven J st = true) : Ev (fun k => impl_isSchedule.f k J st) (schedTo J st st.length) := by
  obtain ⟨hJ, hlen, hst⟩ := isGiven_at hg
  obtain ⟨hJl, hJa⟩ := isJobs_at hJ
  have key := evUp0 J.length (fun k (_ : Unit) (i : Nat) => impl_isSchedule.l0 k J st J (J.length : Int) (i : Int)) (fun i _ => schedTo J st i = true) (schedTo J st st.length) () rfl
    (by
      intro i u hi hI
      by_cases hc : rd st (i : Int) < (rd_T43 J (i : Int)).f0
      · refine .inr (evEnd fun k => ?_)
        show impl_isSchedule.l0 (k + 1) J st J (J.length : Int) (i : Int) = _
        simp only [impl_isSchedule.l0]
        rw [if_pos (by omega), if_pos (by omega), if_pos (by omega), if_pos (by omega), if_pos hc, schedTo_false J st i (by simp [schedAt, hc]) st.length (by omega)]
      · have step : ∀ k, impl_isSchedule.l0 (k + 1) J st J (J.length : Int) (i : Int) = impl_isSchedule.l1 k J st (i : Int) J (J.length : Int) (i : Int) (i : Int) 0 (rd_T43 J (i : Int)).f0 (rd_T43 J (i : Int)).f1 (rd_T43 J (i : Int)).f2 := by
          intro k
          simp only [impl_isSchedule.l0]
          rw [if_pos (by omega), if_pos (by omega), if_pos (by omega), if_pos (by omega), if_neg hc]
        cases hq : quiet J st i i with
        | true => exact .inl ⟨(), by simp [schedTo, schedAt, hI, hq, hc], fun h => evNext step (implSched_inner hg i hi _ (by rw [hq]; simp) (fun _ => h) _ _)⟩
        | false => exact .inr (evNext step (implSched_inner hg i hi _ (fun _ => schedTo_false J st i (by simp [schedAt, hq]) st.length (by omega)) (by rw [hq]; simp) _ _)))
    (by
      intro u hI
      refine evEnd fun k => ?_
      show impl_isSchedule.l0 (k + 1) J st J (J.length : Int) (J.length : Int) = _
      simp only [impl_isSchedule.l0]
      rw [if_neg (by omega), hlen, hI])
  exact key
end Go.Proofs.Ytkkgnjdepgmjlaa.X
