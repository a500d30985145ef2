/- LevelsOf: the program and the reference come to the same. -/
import Derived.Test.YtcamhmafkbbooaaPlBucket
import Derived.Test.YtcamhmafkbbooaaX2
import Derived.Test.YtcamhmafkbbooaaX4
namespace Go.Proofs.Ytcamhmafkbbooaa.X
open Go.RowKit Go.Proofs.YtcamhmafkbbooaaW.PrintWords
theorem lev_len (r d : Int) : ∀ (l : List Int) (v : Int) (acc : List Int), (lev r d v acc l).1.length ≤ acc.length + l.length
  | [], v, acc => by simp [lev]
  | x :: xs, v, acc => by
    simp only [lev]
    by_cases h : v < x
    · rw [if_pos h]; simp
    · rw [if_neg h]
      have := lev_len r d xs (min d (v - x + r)) (acc ++ [v])
      simp only [List.length_append, List.length_cons, List.length_nil] at this ⊢
      omega
theorem LevelsOf_same (r d : Int) (l : List Int) (h : ((Lit.int .i64 r).wf = true ∧ (Lit.int .i64 d).wf = true ∧ l.length ≤ maxLen ∧ l.length * 8 ≤ 140737488351232 ∧ (∀ x ∈ l, (Lit.int .i64 x).wf = true) ∧ l.length ≤ 1048576)) :
    ∃ v, Ev (fun k => spec_LevelsOf.f k r d l) v ∧ Ev (fun k => impl_LevelsOf.f k r d l) v ∧ v.1.length ≤ 1000000 := by
  obtain ⟨K3, e3⟩ := specAsked_ev r d l (by omega)
  dsimp only at e3
  by_cases hg : (isBk r d && isTr l) = true
  · rw [hg] at e3
    have hg' := hg
    simp only [Bool.and_eq_true] at hg'
    have h1 := isBk_iff hg'.1
    have h2 := isTr_len hg'.2
    have h3 := all_bound (isTr_all hg'.2)
    obtain ⟨K1, e1⟩ := specLevels_ev r d l (by omega) (by omega) (by omega) (fun x hx => by have := h3 x hx; omega)
    obtain ⟨K2, e2⟩ := implLevels_ev r d l (by omega) (by omega) (by omega) (fun x hx => by have := h3 x hx; omega)
    dsimp only at e1 e2
    refine ⟨lev r d d [] l, ⟨K1 + K3 + 9, fun k hk => ?_⟩, ⟨K2 + 9, fun k hk => ?_⟩, ?_⟩
    · simp (disch := omega) only [spec_LevelsOf.f, e1, e3, Option.bind_some, if_true]
    · simp (disch := omega) only [impl_LevelsOf.f, implShaped_eq, hg, e2, Option.bind_some, if_true]
    · have := lev_len r d l d []
      simp only [List.length_nil] at this
      omega
  · have hf : (isBk r d && isTr l) = false := by simpa using hg
    rw [hf] at e3
    refine ⟨([], false), ⟨K3 + 9, fun k hk => ?_⟩, ⟨9, fun k hk => ?_⟩, by simp⟩
    · simp (disch := omega) [spec_LevelsOf.f, e3]
    · simp (disch := omega) [impl_LevelsOf.f, implShaped_eq, hf]
end Go.Proofs.Ytcamhmafkbbooaa.X
