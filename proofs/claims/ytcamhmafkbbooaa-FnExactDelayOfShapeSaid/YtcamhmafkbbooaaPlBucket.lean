/- Plain lemmas: buckets, and levels of buckets. -/
import Derived.Test.YtcamhmafkbbooaaPlTraffic
import Derived.Test.YtcamhmafkbbooaaX3
import Derived.Test.YtcamhmafkbbooaaX6
import Derived.Test.YtcamhmafkbbooaaX7
import Derived.Test.YtcamhmafkbbooaaX4
namespace Go.Proofs.Ytcamhmafkbbooaa.X
set_option linter.unusedSimpArgs false
set_option linter.unusedVariables false
open Go.RowKit Go.Proofs.YtcamhmafkbbooaaW.PrintWords
def isBk (r d : Int) : Bool := inB 1 100 r && inB 1 1000 d
theorem isBk_iff {r d : Int} (h : isBk r d = true) : 1 ≤ r ∧ r ≤ 100 ∧ 1 ≤ d ∧ d ≤ 1000 := by
  simp only [isBk, inB, Bool.and_eq_true, decide_eq_true_eq] at h
  omega
theorem specBucket_eq (r d : Int) : spec_shBucket.f r d = some (isBk r d) := by
  unfold spec_shBucket.f isBk
  simp only [l1In_eq, Option.bind_some]
  cases inB 1 100 r <;> simp
theorem implBucket_eq (r d : Int) : impl_IsBucket.f r d = some (isBk r d) := by
  unfold impl_IsBucket.f impl_isRate.f impl_isDepth.f isBk
  simp only [within_eq, Option.bind_some]
  cases inB 1 100 r <;> simp
theorem implShaped_eq (r d : Int) (l : List Int) : impl_isShaped.f r d l = some (isBk r d && isTr l) := by
  unfold impl_isShaped.f
  simp only [implBucket_eq, implTraffic_eq, Option.bind_some]
  cases isBk r d <;> simp
theorem specAsked_ev (r d : Int) (l : List Int) (hn : l.length ≤ 9223372036854775806) : Ev (fun k => spec_shAsked.f k r d l) (isBk r d && isTr l) := by
  cases h : isBk r d with
  | true =>
    refine Ev.congr (f := fun k => (spec_shTraffic.f k l).bind fun t => some t) (fun k => ?_) (evEq (Ev.bind (specTraffic_ev l hn) (Ev.now _)) (by simp))
    unfold spec_shAsked.f
    rw [specBucket_eq, h]
    simp
  | false =>
    refine Ev.congr (f := fun k => some false) (fun k => ?_) (evEq (Ev.now _) (by simp))
    unfold spec_shAsked.f
    rw [specBucket_eq, h]
    simp
/-- The levels of a bucket at what is left of the traffic, and whether it keeps it. -/
def lev (r d : Int) : Int → List Int → List Int → List Int × Bool
  | _, acc, [] => (acc, true)
  | v, acc, x :: xs => if v < x then ([], false) else lev r d (min d (v - x + r)) (acc ++ [v]) xs
theorem mn_min (a b : Int) : mn a b = min a b := by unfold mn; omega
theorem mx_max (a b : Int) : mx a b = max a b := by unfold mx; omega
theorem l1Least_eq (a b : Int) : spec_l1Least.f a b = some (min a b) := by
  unfold spec_l1Least.f
  split <;> (congr 1; omega)
theorem implLevels_ev (r d : Int) (l : List Int) (hr : -1000 ≤ r ∧ r ≤ 1000) (hd : 0 ≤ d ∧ d ≤ 100000) (hl : l.length ≤ 100000) (ha : ∀ x ∈ l, -1000000 ≤ x ∧ x ≤ 1000000) : Ev (fun k => impl_Bucket_levels.f k r d l) (lev r d d [] l) := by
  have key := evUp0 l.length (fun k (s : List Int × Int) (i : Nat) => impl_Bucket_levels.l0 k s.1 s.2 l (l.length : Int) (i : Int) r d)
    (fun i s => s.1.length = i ∧ -100000000 ≤ s.2 ∧ s.2 ≤ 100000 ∧ lev r d s.2 s.1 (l.drop i) = lev r d d [] l) (lev r d d [] l) ([], d) ⟨rfl, by omega, by omega, rfl⟩
    (by
      rintro i ⟨acc, v⟩ hi ⟨h1, h2, h3, h4⟩
      have hx := ha _ (List.getElem_mem hi)
      rw [List.drop_eq_getElem_cons hi] at h4
      simp only [lev] at h4
      simp only at h1 h2 h3
      by_cases hv : v < l[i]
      · refine .inr (evEnd fun k => ?_)
        show impl_Bucket_levels.l0 (k + 1) acc v l (l.length : Int) (i : Int) r d = _
        rw [if_pos hv] at h4
        simp only [impl_Bucket_levels.l0]
        rw [if_pos (by omega), if_pos (by omega), if_pos (by omega), rd_at l i hi, if_pos (by omega), h4]
      · rw [if_neg hv] at h4
        refine .inl ⟨(acc ++ [v], min d (v - l[i] + r)), ⟨by simp [h1], by simp only; omega, by simp only; omega, h4⟩, fun h => evNext (fun k => ?_) h⟩
        show impl_Bucket_levels.l0 (k + 1) acc v l (l.length : Int) (i : Int) r d = impl_Bucket_levels.l0 k (acc ++ [v]) (min d (v - l[i] + r)) l (l.length : Int) (i + 1 : Nat) r d
        simp only [impl_Bucket_levels.l0]
        rw [if_pos (by omega), if_pos (by omega), if_pos (by omega), rd_at l i hi, if_neg (by omega), if_pos (by omega), mn_min]
        simp (disch := omega) only [w64]
        rfl)
    (by
      rintro ⟨acc, v⟩ ⟨h1, h2, h3, h4⟩
      refine evEnd fun k => ?_
      show impl_Bucket_levels.l0 (k + 1) acc v l (l.length : Int) (l.length : Int) r d = _
      rw [List.drop_length] at h4
      simp only [lev] at h4
      simp only [impl_Bucket_levels.l0]
      rw [if_neg (by omega), h4])
  exact key
theorem specLevels_ev (r d : Int) (l : List Int) (hr : -1000 ≤ r ∧ r ≤ 1000) (hd : 0 ≤ d ∧ d ≤ 100000) (hl : l.length ≤ 100000) (ha : ∀ x ∈ l, -1000000 ≤ x ∧ x ≤ 1000000) : Ev (fun k => spec_shLevels.f k r d l) (lev r d d [] l) := by
  have key := evUp0 l.length (fun k (s : List Int × Int) (i : Nat) => spec_shLevels.l0 k s.1 s.2 l (l.length : Int) (i : Int) r d)
    (fun i s => s.1.length = i ∧ -100000000 ≤ s.2 ∧ s.2 ≤ 100000 ∧ lev r d s.2 s.1 (l.drop i) = lev r d d [] l) (lev r d d [] l) ([], d) ⟨rfl, by omega, by omega, rfl⟩
    (by
      rintro i ⟨acc, v⟩ hi ⟨h1, h2, h3, h4⟩
      have hx := ha _ (List.getElem_mem hi)
      rw [List.drop_eq_getElem_cons hi] at h4
      simp only [lev] at h4
      simp only at h1 h2 h3
      by_cases hv : v < l[i]
      · refine .inr (evEnd fun k => ?_)
        show spec_shLevels.l0 (k + 1) acc v l (l.length : Int) (i : Int) r d = _
        rw [if_pos hv] at h4
        simp only [spec_shLevels.l0]
        rw [if_pos (by omega), if_pos (by omega), if_pos (by omega), if_pos (by omega), rd_at l i hi, if_pos (by omega), h4]
      · rw [if_neg hv] at h4
        refine .inl ⟨(acc ++ [v], min d (v - l[i] + r)), ⟨by simp [h1], by simp only; omega, by simp only; omega, h4⟩, fun h => evNext (fun k => ?_) h⟩
        show spec_shLevels.l0 (k + 1) acc v l (l.length : Int) (i : Int) r d = spec_shLevels.l0 k (acc ++ [v]) (min d (v - l[i] + r)) l (l.length : Int) (i + 1 : Nat) r d
        simp only [spec_shLevels.l0]
        rw [if_pos (by omega), if_pos (by omega), if_pos (by omega), if_pos (by omega), rd_at l i hi, if_neg (by omega), l1Least_eq]
        simp (disch := omega) only [w64, Option.bind_some]
        rfl)
    (by
      rintro ⟨acc, v⟩ ⟨h1, h2, h3, h4⟩
      refine evEnd fun k => ?_
      show spec_shLevels.l0 (k + 1) acc v l (l.length : Int) (l.length : Int) r d = _
      rw [List.drop_length] at h4
      simp only [lev] at h4
      simp only [spec_shLevels.l0]
      rw [if_neg (by omega), h4])
  exact key
end Go.Proofs.Ytcamhmafkbbooaa.X
