/- KeepsBucket, KeepsBoth: the program and the reference come to the same. -/
import Derived.Test.YthaddopcblcfiaaPlBucket
import Derived.Test.YthaddopcblcfiaaX11
import Derived.Test.YthaddopcblcfiaaX8
namespace Go.Proofs.Ythaddopcblcfiaa.X
open Go.RowKit Go.Proofs.YthaddopcblcfiaaW.PrintWords
theorem bk_levels {r d : Int} {l : List Int} (hb : isBk r d = true) (ht : isTr l = true) : (Ev (fun k => spec_shLevels.f k r d l) (lev r d d [] l)) ∧ (Ev (fun k => impl_Bucket_levels.f k r d l) (lev r d d [] l)) := by
  have h1 := isBk_iff hb
  have h2 := isTr_len ht
  have h3 := all_bound (isTr_all ht)
  exact ⟨specLevels_ev r d l (by omega) (by omega) (by omega) (fun x hx => by have := h3 x hx; omega), implLevels_ev r d l (by omega) (by omega) (by omega) (fun x hx => by have := h3 x hx; omega)⟩
theorem KeepsBucket_same (r d : Int) (l : List Int) (h : ((Lit.int .i64 r).wf = true ∧ (Lit.int .i64 d).wf = true ∧ l.length ≤ maxLen ∧ l.length * 8 ≤ 140737488351232 ∧ (∀ x ∈ l, (Lit.int .i64 x).wf = true) ∧ l.length ≤ 1048576)) :
    ∃ v, Ev (fun k => spec_KeepsBucket.f k r d l) v ∧ Ev (fun k => impl_KeepsBucket.f k r d l) v := by
  obtain ⟨K3, e3⟩ := specAsked_ev r d l (by omega)
  dsimp only at e3
  by_cases hg : (isBk r d && isTr l) = true
  · rw [hg] at e3
    have hg' := hg
    simp only [Bool.and_eq_true] at hg'
    obtain ⟨⟨K1, e1⟩, ⟨K2, e2⟩⟩ := bk_levels hg'.1 hg'.2
    dsimp only at e1 e2
    refine ⟨((lev r d d [] l).2, true), ⟨K1 + K3 + 9, fun k hk => ?_⟩, ⟨K2 + 9, fun k hk => ?_⟩⟩
    · simp (disch := omega) only [spec_KeepsBucket.f, spec_shKeeps.f, e1, e3, Option.bind_some, if_true]
    · simp (disch := omega) only [impl_KeepsBucket.f, implShaped_eq, hg, e2, Option.bind_some, if_true]
  · have hf : (isBk r d && isTr l) = false := by simpa using hg
    rw [hf] at e3
    refine ⟨(false, false), ⟨K3 + 9, fun k hk => ?_⟩, ⟨9, fun k hk => ?_⟩⟩
    · simp (disch := omega) [spec_KeepsBucket.f, e3]
    · simp (disch := omega) [impl_KeepsBucket.f, implShaped_eq, hf]
end Go.Proofs.Ythaddopcblcfiaa.X
