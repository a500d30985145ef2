/- IsInsertRing answers as the reference does, for every input: the pure statement. -/
import Derived.Test.YtcamhmafkbbooaaX1
import Derived.Test.YtcamhmafkbbooaaPlEv
namespace Go.Proofs.Ytcamhmafkbbooaa.Pure
open Go.RowKit Go.Proofs.Ytcamhmafkbbooaa.X Go.Proofs.YtcamhmafkbbooaaW.PrintWords Go.Proofs.YtcamhmafkbbooaaW.PrintLast
theorem FnExactIsInsertRing : ∀ (a0_0 : Int) (a0_1 : Int) (a0_2 : Bool), (Lit.int .i64 a0_0).wf = true → (Lit.int .i64 a0_1).wf = true → laws_FnExactIsInsertRing.f a0_0 a0_1 a0_2 = some true := by
  intro a b c _ _
  simp only [laws_FnExactIsInsertRing.f, laws_toInsertRing.f, spec_IsInsertRing.f, spec_inGood.f, spec_l1In.f, impl_IsInsertRing.f, impl_isRingSize.f, impl_within.f, Option.bind_some]
  by_cases h1 : a ≥ 2
  · by_cases h2 : a ≤ 12
    · by_cases h3 : b ≥ 1
      · simp [h1, h2, h3]
      · simp [h1, h2, h3]
    · simp [h1, h2]
  · simp [h1]
end Go.Proofs.Ytcamhmafkbbooaa.Pure
