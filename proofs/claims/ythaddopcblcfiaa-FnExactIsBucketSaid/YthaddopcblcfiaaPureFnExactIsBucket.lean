/- IsBucket answers as the reference does, for every input: the pure statement. -/
import Derived.Test.YthaddopcblcfiaaX1
import Derived.Test.YthaddopcblcfiaaPlEv
namespace Go.Proofs.Ythaddopcblcfiaa.Pure
open Go.RowKit Go.Proofs.Ythaddopcblcfiaa.X Go.Proofs.YthaddopcblcfiaaW.PrintWords Go.Proofs.YthaddopcblcfiaaW.PrintLast
theorem FnExactIsBucket : ∀ (a0_0 : Int) (a0_1 : Int), (Lit.int .i64 a0_0).wf = true → (Lit.int .i64 a0_1).wf = true → laws_FnExactIsBucket.f a0_0 a0_1 = some true := by
  intro a b _ _
  simp only [laws_FnExactIsBucket.f, laws_toBucket.f, spec_IsBucket.f, spec_shBucket.f, spec_l1In.f, impl_IsBucket.f, impl_isRate.f, impl_isDepth.f, impl_within.f, Option.bind_some]
  by_cases h1 : a ≥ 1
  · by_cases h2 : a ≤ 100
    · by_cases h3 : b ≥ 1
      · simp [h1, h2, h3]
      · simp [h1, h2, h3]
    · simp [h1, h2]
  · simp [h1]
end Go.Proofs.Ythaddopcblcfiaa.Pure
