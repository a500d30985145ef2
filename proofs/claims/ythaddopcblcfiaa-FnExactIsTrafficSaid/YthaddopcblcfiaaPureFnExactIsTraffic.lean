/- IsTraffic answers as the reference does, for every list. -/
import Derived.Test.YthaddopcblcfiaaPlInts
import Derived.Test.YthaddopcblcfiaaPlTraffic
import Derived.Test.YthaddopcblcfiaaX4
namespace Go.Proofs.Ythaddopcblcfiaa.Pure
open Go.RowKit Go.Proofs.Ythaddopcblcfiaa.X Go.Proofs.YthaddopcblcfiaaW.PrintWords Go.Proofs.YthaddopcblcfiaaW.PrintLast
theorem FnExactIsTraffic : ∀ (l0 : List Int), l0.length ≤ maxLen → l0.length * 8 ≤ 140737488351232 → (∀ x ∈ l0, (Lit.int .i64 x).wf = true) → ∃ k, laws_FnExactIsTraffic.f k l0 = some true := by
  intro l0 _ h2 _
  by_cases hb : (l0.length : Int) > 1048576
  · exact ⟨0, by unfold laws_FnExactIsTraffic.f; rw [if_pos hb]⟩
  obtain ⟨K1, e1⟩ := toIntS_ev l0 (by omega)
  obtain ⟨K2, e2⟩ := specTraffic_ev l0 (by omega)
  obtain ⟨K3, e3⟩ := eqIntS_ev l0 l0 (by omega)
  dsimp only at e1 e2 e3
  refine ⟨K1 + K2 + K3 + 9, ?_⟩
  simp (disch := omega) [laws_FnExactIsTraffic.f, spec_IsTraffic.f, e1, e2, e3, implTraffic_eq, hb]
end Go.Proofs.Ythaddopcblcfiaa.Pure
