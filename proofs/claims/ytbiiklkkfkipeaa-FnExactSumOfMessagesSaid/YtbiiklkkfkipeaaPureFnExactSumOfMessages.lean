/- SumOfMessages answers as the reference does, for every number: the pure statement. -/
import Derived.Test.YtbiiklkkfkipeaaPlAll
import Derived.Test.YtbiiklkkfkipeaaX2
import Derived.Test.YtbiiklkkfkipeaaX1
namespace Go.Proofs.Ytbiiklkkfkipeaa.Pure
set_option linter.unusedSimpArgs false
set_option linter.unusedVariables false
open Go.RowKit Go.Proofs.Ytbiiklkkfkipeaa.X Go.Proofs.YtbiiklkkfkipeaaW.PrintWords Go.Proofs.YtbiiklkkfkipeaaW.PrintLast
theorem FnExactSumOfMessages : ∀ (a0 : Int), (Lit.int .i64 a0).wf = true → ∃ k, laws_FnExactSumOfMessages.f k a0 = some true := by
  intro a _
  refine ⟨40, ?_⟩
  by_cases h : inB 2 12 a = true
  · have := inB_iff.1 h
    rcases (by omega : a = 2 ∨ a = 3 ∨ a = 4 ∨ a = 5 ∨ a = 6 ∨ a = 7 ∨ a = 8 ∨ a = 9 ∨ a = 10 ∨ a = 11 ∨ a = 12) with rfl | rfl | rfl | rfl | rfl | rfl | rfl | rfl | rfl | rfl | rfl <;> decide +kernel
  · simp [laws_FnExactSumOfMessages.f, spec_SumOfMessages.f, impl_SumOfMessages.f, l1In_eq, within_eq, h]
end Go.Proofs.Ytbiiklkkfkipeaa.Pure
