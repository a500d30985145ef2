/- JoinBuckets answers as the reference does, for every input: the pure statement. -/
import Derived.Test.YthaddopcblcfiaaPlJoin
import Derived.Test.YthaddopcblcfiaaX3
namespace Go.Proofs.Ythaddopcblcfiaa.Pure
open Go.RowKit Go.Proofs.Ythaddopcblcfiaa.X Go.Proofs.YthaddopcblcfiaaW.PrintWords Go.Proofs.YthaddopcblcfiaaW.PrintLast
theorem FnExactJoinBuckets : ∀ (a0_0 : Int) (a0_1 : Int) (a1_0 : Int) (a1_1 : Int), (Lit.int .i64 a0_0).wf = true → (Lit.int .i64 a0_1).wf = true → (Lit.int .i64 a1_0).wf = true → (Lit.int .i64 a1_1).wf = true → ∃ k, laws_FnExactJoinBuckets.f k a0_0 a0_1 a1_0 a1_1 = some true := by
  intro a b c d _ _ _ _
  refine ⟨0 + 1, ?_⟩
  simp only [laws_FnExactJoinBuckets.f, laws_toBucket.f, specJoin_eq, implJoin_eq, laws_eqBucket.f, Option.bind_some, if_true, laws_FnExactJoinBuckets.j0, bne_self_eq_false, Bool.false_eq_true, if_false]
end Go.Proofs.Ythaddopcblcfiaa.Pure
