/- JoinBuckets: the pure statement. -/
import Derived.Test.YthaddopcblcfiaaPlAll
import Derived.Test.YthaddopcblcfiaaPlBucket
import Derived.Test.YthaddopcblcfiaaX2
namespace Go.Proofs.Ythaddopcblcfiaa.X
open Go.RowKit Go.Proofs.YthaddopcblcfiaaW.PrintWords
def joined (r d r2 d2 : Int) : Int × Int × Bool := if (isBk r d && isBk r2 d2 && isBk (wrap64 (r + r2)) (wrap64 (d + d2))) = true then (wrap64 (r + r2), wrap64 (d + d2), true) else (0, 0, false)
theorem specJoin_eq (k : Nat) (r d r2 d2 : Int) : spec_JoinBuckets.f (k + 1) r d r2 d2 = some (joined r d r2 d2) := by
  unfold spec_JoinBuckets.f joined
  simp only [specBucket_eq, Option.bind_some, spec_JoinBuckets.j0]
  cases isBk r d <;> cases isBk r2 d2 <;> cases isBk (wrap64 (r + r2)) (wrap64 (d + d2)) <;> simp
theorem implJoin_eq (k : Nat) (r d r2 d2 : Int) : impl_JoinBuckets.f (k + 1) r d r2 d2 = some (joined r d r2 d2) := by
  unfold impl_JoinBuckets.f joined
  simp only [implBucket_eq, Option.bind_some, impl_JoinBuckets.j0]
  cases isBk r d <;> cases isBk r2 d2 <;> cases isBk (wrap64 (r + r2)) (wrap64 (d + d2)) <;> simp
end Go.Proofs.Ythaddopcblcfiaa.X
