/- KeepsBoth: the program and the reference come to the same. -/
import Derived.Test.YthaddopcblcfiaaPlKeeps
import Derived.Test.YthaddopcblcfiaaX12
namespace Go.Proofs.Ythaddopcblcfiaa.X
open Go.RowKit Go.Proofs.YthaddopcblcfiaaW.PrintWords
theorem KeepsBoth_same (r d r2 d2 : Int) (l : List Int) (h : ((Lit.int .i64 r).wf = true ∧ (Lit.int .i64 d).wf = true ∧ (Lit.int .i64 r2).wf = true ∧ (Lit.int .i64 d2).wf = true ∧ l.length ≤ maxLen ∧ l.length * 8 ≤ 140737488351232 ∧ (∀ x ∈ l, (Lit.int .i64 x).wf = true) ∧ l.length ≤ 1048576)) :
    ∃ v, Ev (fun k => spec_KeepsBoth.f k r d r2 d2 l) v ∧ Ev (fun k => impl_KeepsBoth.f k r d r2 d2 l) v := by
  obtain ⟨K3, e3⟩ := specAsked_ev r2 d2 l (by omega)
  dsimp only at e3
  by_cases hb : isBk r d = true
  · by_cases hg : (isBk r2 d2 && isTr l) = true
    · rw [hg] at e3
      have hg' := hg
      simp only [Bool.and_eq_true] at hg'
      obtain ⟨⟨K1, e1⟩, ⟨K2, e2⟩⟩ := bk_levels hb hg'.2
      obtain ⟨⟨K4, e4⟩, ⟨K5, e5⟩⟩ := bk_levels hg'.1 hg'.2
      dsimp only at e1 e2 e4 e5
      refine ⟨((lev r d d [] l).2 && (lev r2 d2 d2 [] l).2, true), ⟨K1 + K3 + K4 + 9, fun k hk => ?_⟩, ⟨K2 + K5 + 9, fun k hk => ?_⟩⟩
      · obtain ⟨m, rfl⟩ : ∃ m, k = m + 9 := ⟨k - 9, by omega⟩
        cases hc : (lev r d d [] l).2 <;> simp (disch := omega) [spec_KeepsBoth.f, spec_KeepsBoth.j0, spec_shKeeps.f, specBucket_eq, hb, e1, e3, e4, hc]
      · obtain ⟨m, rfl⟩ : ∃ m, k = m + 9 := ⟨k - 9, by omega⟩
        cases hc : (lev r d d [] l).2 <;> simp (disch := omega) [impl_KeepsBoth.f, impl_KeepsBoth.j0, implShaped_eq, implBucket_eq, hb, hg'.1, hg'.2, e2, e5, hc]
    · have hf : (isBk r2 d2 && isTr l) = false := by simpa using hg
      rw [hf] at e3
      refine ⟨(false, false), ⟨K3 + 9, fun k hk => ?_⟩, ⟨9, fun k hk => ?_⟩⟩
      · obtain ⟨m, rfl⟩ : ∃ m, k = m + 9 := ⟨k - 9, by omega⟩
        simp (disch := omega) [spec_KeepsBoth.f, spec_KeepsBoth.j0, specBucket_eq, hb, e3]
      · obtain ⟨m, rfl⟩ : ∃ m, k = m + 9 := ⟨k - 9, by omega⟩
        cases ht : isTr l
        · simp [impl_KeepsBoth.f, impl_KeepsBoth.j0, implShaped_eq, implBucket_eq, hb, ht]
        · rw [ht, Bool.and_true] at hf
          simp [impl_KeepsBoth.f, impl_KeepsBoth.j0, implShaped_eq, implBucket_eq, hb, ht, hf]
  · have hb' : isBk r d = false := by simpa using hb
    refine ⟨(false, false), ⟨9, fun k hk => ?_⟩, ⟨9, fun k hk => ?_⟩⟩
    · obtain ⟨m, rfl⟩ : ∃ m, k = m + 9 := ⟨k - 9, by omega⟩
      simp (disch := omega) [spec_KeepsBoth.f, spec_KeepsBoth.j0, specBucket_eq, hb']
    · obtain ⟨m, rfl⟩ : ∃ m, k = m + 9 := ⟨k - 9, by omega⟩
      simp [impl_KeepsBoth.f, impl_KeepsBoth.j0, implShaped_eq, hb']
end Go.Proofs.Ythaddopcblcfiaa.X
