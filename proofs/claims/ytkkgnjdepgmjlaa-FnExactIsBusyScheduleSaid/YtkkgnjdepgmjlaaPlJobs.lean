/- Plain lemmas: jobs, starts of jobs, schedules. -/
import Derived.Test.YtkkgnjdepgmjlaaPlStructs
import Derived.Test.YtkkgnjdepgmjlaaPlAll
import Derived.Test.YtkkgnjdepgmjlaaX2
import Derived.Test.YtkkgnjdepgmjlaaX9
import Derived.Test.YtkkgnjdepgmjlaaX8
import Derived.Test.YtkkgnjdepgmjlaaX3
import Derived.Test.YtkkgnjdepgmjlaaX10
namespace Go.Proofs.Ytkkgnjdepgmjlaa.X
set_option linter.unusedSimpArgs false
set_option linter.unusedVariables false
open Go.RowKit Go.Proofs.YtkkgnjdepgmjlaaW.PrintWords
def okJob (x : S43) : Bool := inB 0 1000 x.f0 && (inB 0 7 x.f1 && inB 1 20 x.f2)
def jobAt (l : List S43) (i : Nat) : Bool := okJob (rd_T43 l (i : Int)) && (decide (i = 0) || decide ((rd_T43 l ((i : Int) - 1)).f0 ≤ (rd_T43 l (i : Int)).f0))
def jobsTo (l : List S43) : Nat → Bool
  | 0 => true
  | n + 1 => jobsTo l n && jobAt l n
def isJobs (l : List S43) : Bool := decide (l.length ≤ 20) && jobsTo l l.length
theorem jobsTo_false (l : List S43) (n : Nat) (h : jobAt l n = false) : ∀ m, n < m → jobsTo l m = false
  | 0, hm => by omega
  | m + 1, hm => by
    by_cases e : n = m
    · subst e
      simp [jobsTo, h]
    · simp [jobsTo, jobsTo_false l n h m (by omega)]
theorem jobsTo_at {l : List S43} (n : Nat) (h : jobsTo l n = true) (i : Nat) (hi : i < n) : jobAt l i = true := by
  cases hj : jobAt l i with
  | true => rfl
  | false =>
    have := jobsTo_false l i hj n hi
    rw [this] at h
    cases h
theorem specJobs_step (l : List S43) (i : Nat) (hi : i < l.length) (hl : l.length ≤ 1048576) (k : Nat) :
    spec_prJobs.l0 (k + 1) l l (l.length : Int) (i : Int) = if jobAt l i = true then spec_prJobs.l0 k l l (l.length : Int) ((i + 1 : Nat) : Int) else some false := by
  simp only [spec_prJobs.l0]
  rw [if_pos (by omega), if_pos (by omega), if_pos (by omega)]
  simp only [l1In_eq, Option.bind_some]
  unfold jobAt okJob
  rw [w64 (x := (i : Int) + 1) (by omega) (by omega)]
  cases inB 0 1000 (rd_T43 l (i : Int)).f0 <;> cases inB 0 7 (rd_T43 l (i : Int)).f1 <;> cases inB 1 20 (rd_T43 l (i : Int)).f2 <;> simp
  by_cases h0 : i = 0
  · subst h0
    simp
  · rw [if_pos (by omega), w64 (by omega) (by omega), if_pos (by omega), if_pos (by omega)]
    by_cases hc : (rd_T43 l ((i : Int) - 1)).f0 ≤ (rd_T43 l (i : Int)).f0
    · rw [if_neg (by omega), if_pos (.inr hc)]
    · rw [if_pos (by omega), if_neg (by omega)]
theorem implJobs_step (l : List S43) (i : Nat) (hi : i < l.length) (hl : l.length ≤ 1048576) (k : Nat) :
    impl_AreJobs.l0 (k + 1) l l (l.length : Int) (i : Int) = if jobAt l i = true then impl_AreJobs.l0 k l l (l.length : Int) ((i + 1 : Nat) : Int) else some false := by
  simp only [impl_AreJobs.l0]
  rw [if_pos (by omega), if_pos (by omega), if_pos (by omega)]
  simp only [impl_isTick.f, within_eq, Option.bind_some]
  unfold jobAt okJob
  rw [w64 (x := (i : Int) + 1) (by omega) (by omega)]
  cases inB 0 1000 (rd_T43 l (i : Int)).f0 <;> cases inB 0 7 (rd_T43 l (i : Int)).f1 <;> cases inB 1 20 (rd_T43 l (i : Int)).f2 <;> simp
  by_cases h0 : i = 0
  · subst h0
    simp
  · rw [if_pos (by omega), w64 (by omega) (by omega), if_pos (by omega), if_pos (by omega)]
    by_cases hc : (rd_T43 l ((i : Int) - 1)).f0 ≤ (rd_T43 l (i : Int)).f0
    · rw [if_neg (by omega), if_pos (.inr hc)]
    · rw [if_pos (by omega), if_neg (by omega)]
theorem specJobs_ev (l : List S43) (hl : l.length ≤ 1048576) : Ev (fun k => spec_prJobs.f k l) (isJobs l) := by
  unfold isJobs
  by_cases hn : l.length ≤ 20
  · rw [decide_eq_true hn, Bool.true_and]
    have key := evUp0 l.length (fun k (_ : Unit) (i : Nat) => spec_prJobs.l0 k l l (l.length : Int) (i : Int)) (fun i _ => jobsTo l i = true) (jobsTo l l.length) () rfl
      (by
        intro i s hi hI
        cases hj : jobAt l i with
        | true => exact .inl ⟨(), by simp [jobsTo, hI, hj], fun h => evNext (fun k => by rw [specJobs_step l i hi hl k, if_pos hj]) h⟩
        | false => exact .inr (evEnd fun k => by rw [specJobs_step l i hi hl k, hj, jobsTo_false l i hj l.length hi]; simp))
      (by
        intro s hI
        refine evEnd fun k => ?_
        show spec_prJobs.l0 (k + 1) l l (l.length : Int) (l.length : Int) = _
        simp only [spec_prJobs.l0]
        rw [if_neg (by omega), hI])
    refine Ev.congr (fun k => ?_) key
    unfold spec_prJobs.f
    rw [if_neg (by omega)]
    rfl
  · rw [decide_eq_false hn, Bool.false_and]
    refine Ev.congr (f := fun _ => some false) (fun k => ?_) (Ev.now _)
    unfold spec_prJobs.f
    rw [if_pos (by omega)]
theorem implJobs_ev (l : List S43) (hl : l.length ≤ 1048576) : Ev (fun k => impl_AreJobs.f k l) (isJobs l) := by
  have key := evUp0 l.length (fun k (_ : Unit) (i : Nat) => impl_AreJobs.l0 k l l (l.length : Int) (i : Int)) (fun i _ => jobsTo l i = true) (isJobs l) () rfl
    (by
      intro i s hi hI
      cases hj : jobAt l i with
      | true => exact .inl ⟨(), by simp [jobsTo, hI, hj], fun h => evNext (fun k => by rw [implJobs_step l i hi hl k, if_pos hj]) h⟩
      | false => exact .inr (evEnd fun k => by rw [implJobs_step l i hi hl k, hj]; simp [isJobs, jobsTo_false l i hj l.length hi]))
    (by
      intro s hI
      refine evEnd fun k => ?_
      show impl_AreJobs.l0 (k + 1) l l (l.length : Int) (l.length : Int) = _
      simp only [impl_AreJobs.l0]
      rw [if_neg (by omega)]
      unfold isJobs
      rw [hI, Bool.and_true]
      congr 1
      by_cases h : l.length ≤ 20
      · rw [decide_eq_true h, decide_eq_true (by omega)]
      · rw [decide_eq_false h, decide_eq_false (by omega)])
  exact key
/-- What is known of jobs. -/
theorem isJobs_at {l : List S43} (h : isJobs l = true) : l.length ≤ 20 ∧ ∀ i : Nat, i < l.length → 0 ≤ (rd_T43 l (i : Int)).f0 ∧ (rd_T43 l (i : Int)).f0 ≤ 1000 ∧ 0 ≤ (rd_T43 l (i : Int)).f1 ∧ (rd_T43 l (i : Int)).f1 ≤ 7 ∧ 1 ≤ (rd_T43 l (i : Int)).f2 ∧ (rd_T43 l (i : Int)).f2 ≤ 20 := by
  unfold isJobs at h
  simp only [Bool.and_eq_true, decide_eq_true_eq] at h
  refine ⟨h.1, fun i hi => ?_⟩
  have := jobsTo_at l.length h.2 i hi
  unfold jobAt okJob at this
  simp only [Bool.and_eq_true] at this
  have h1 := inB_iff.1 this.1.1
  have h2 := inB_iff.1 this.1.2.1
  have h3 := inB_iff.1 this.1.2.2
  omega
def isGiven (J : List S43) (st : List Int) : Bool := isJobs J && (decide (st.length = J.length) && st.all (inB 0 5000))
theorem isGiven_at {J : List S43} {st : List Int} (h : isGiven J st = true) : isJobs J = true ∧ st.length = J.length ∧ ∀ i : Nat, i < st.length → 0 ≤ rd st (i : Int) ∧ rd st (i : Int) ≤ 5000 := by
  unfold isGiven at h
  simp only [Bool.and_eq_true, decide_eq_true_eq] at h
  exact ⟨h.1, h.2.1, fun i hi => all_rd h.2.2 i hi⟩
theorem specGiven_ev (J : List S43) (st : List Int) (hJ : J.length ≤ 1048576) (hs : st.length ≤ 1048576) : Ev (fun k => spec_prGiven.f k J st) (isGiven J st) := by
  obtain ⟨K1, e1⟩ := specJobs_ev J hJ
  obtain ⟨K2, e2⟩ := l1All_ev st 0 5000 (by omega)
  dsimp only at e1 e2
  refine ⟨K1 + K2, fun k hk => ?_⟩
  simp (disch := omega) only [spec_prGiven.f, e1, Option.bind_some]
  unfold isGiven
  cases isJobs J with
  | false => simp
  | true =>
    by_cases hl : st.length = J.length
    · rw [if_pos rfl, if_pos (by omega), e2 k (by omega), decide_eq_true hl]
      simp
    · rw [if_pos rfl, if_neg (by omega), decide_eq_false hl]
      simp
theorem implGiven_ev (J : List S43) (st : List Int) (hJ : J.length ≤ 1048576) : Ev (fun k => impl_areStarts.f k J st) (isGiven J st) := by
  obtain ⟨K1, e1⟩ := implJobs_ev J hJ
  dsimp only at e1
  refine ⟨K1, fun k hk => ?_⟩
  simp (disch := omega) only [impl_areStarts.f, e1, Option.bind_some]
  unfold isGiven
  cases isJobs J with
  | false => simp
  | true =>
    by_cases hl : st.length = J.length
    · rw [if_pos rfl, if_pos (by omega), allWithin_eq, decide_eq_true hl]
      simp
    · rw [if_pos rfl, if_neg (by omega), decide_eq_false hl]
      simp
end Go.Proofs.Ytkkgnjdepgmjlaa.X
