/- IsSlotRing answers as the reference does, for every input: the pure statement. -/
import Derived.Test.YtcamhmafkbbooaaX1
import Derived.Test.YtcamhmafkbbooaaPlEv
namespace Go.Proofs.Ytcamhmafkbbooaa.Pure
open Go.RowKit Go.Proofs.Ytcamhmafkbbooaa.X Go.Proofs.YtcamhmafkbbooaaW.PrintWords Go.Proofs.YtcamhmafkbbooaaW.PrintLast
theorem FnExactIsSlotRing : ∀ (a0_0 : Int) (a0_1 : Bool), (Lit.int .i64 a0_0).wf = true → laws_FnExactIsSlotRing.f a0_0 a0_1 = some true := by
  intro a b _
  simp only [laws_FnExactIsSlotRing.f, laws_toSlotRing.f, spec_IsSlotRing.f, spec_slGood.f, spec_l1In.f, impl_IsSlotRing.f, impl_isRingSize.f, impl_within.f, Option.bind_some]
  by_cases h1 : a ≥ 2
  · simp [h1]
  · simp [h1]
end Go.Proofs.Ytcamhmafkbbooaa.Pure
