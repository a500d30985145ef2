/- KeepsBoth answers as the reference does, for every input: the pure statement. -/
import Derived.Test.YthaddopcblcfiaaPlInts
import Derived.Test.YthaddopcblcfiaaPlKeepsBoth
import Derived.Test.YthaddopcblcfiaaX13
namespace Go.Proofs.Ythaddopcblcfiaa.Pure
open Go.RowKit Go.Proofs.Ythaddopcblcfiaa.X Go.Proofs.YthaddopcblcfiaaW.PrintWords Go.Proofs.YthaddopcblcfiaaW.PrintLast
set_option maxHeartbeats 1000000 in
theorem FnExactKeepsBoth : ∀ (a0_0 : Int) (a0_1 : Int) (a1_0 : Int) (a1_1 : Int) (l2 : List Int), (Lit.int .i64 a0_0).wf = true → (Lit.int .i64 a0_1).wf = true → (Lit.int .i64 a1_0).wf = true → (Lit.int .i64 a1_1).wf = true → l2.length ≤ maxLen → l2.length * 8 ≤ 140737488351232 → (∀ x ∈ l2, (Lit.int .i64 x).wf = true) → ∃ k, laws_FnExactKeepsBoth.f k a0_0 a0_1 a1_0 a1_1 l2 = some true := by
  intro a0_0 a0_1 a1_0 a1_1 l2 h0_ h1_ h2_ h3_ h4_ h5_ h6_
  by_cases hb0 : (l2.length : Int) > 1048576
  · exact ⟨9, by simp [laws_FnExactKeepsBoth.f, hb0]⟩
  have hm : l2.length ≤ 1048576 := by omega
  obtain ⟨v, hS, hI⟩ := KeepsBoth_same a0_0 a0_1 a1_0 a1_1 l2 (by first | exact ⟨h0_, h1_, h2_, h3_, h4_, h5_, h6_, hm⟩ | trivial)
  obtain ⟨K1, e1⟩ := hS
  obtain ⟨K2, e2⟩ := hI
  obtain ⟨K3, e3⟩ := toIntS_ev l2 (by omega)
  obtain ⟨K4, e4⟩ := eqIntS_ev l2 l2 (by omega)
  dsimp only at e1 e2 e3 e4
  refine ⟨K1 + K2 + K3 + K4 + 9, ?_⟩
  simp (disch := omega) [laws_FnExactKeepsBoth.f, laws_FnExactKeepsBoth.j0, laws_toBucket.f, e1, e2, e3, e4, hb0]
end Go.Proofs.Ythaddopcblcfiaa.Pure
