/-
  No cell of these rows narrows 'for every input' (looked for: loops, veiled, ifaces, maps, wideKeys, modest, calm, conditions, laid).
  DERIVED. THE GIVEN ROWS OF THIS SEAT. 11 by the template 'for every input the law returns true; each argument reads behind the call as it read before'; 0 by the template 'total and deterministic' (their statements: YthaddopcblcfiaaTotals.lean).
  GIVEN WITH THE SEED: the statements are not yours to turn. If you find one false, say at which input.
  Laid BY PROGRAM, IN A SANDBOX (cutbox-rows.mjs): the forced cells as the released guide's own fill.sh prints them over the translation e33274f96f4ec341… (all of the seat's roots in one cut). By AI agents, Wed Nov 11 2026. No macro, syntax, notation, axiom, sorry.
-/
import Derived.Test.YthaddopcblcfiaaChecked
import GoSem.Claim
import GoSem.ClaimJoined
import GoSem.ClaimMapViews
import Derived.JoinedTies
import Derived.KernelRfl
namespace Go.Proofs.Ythaddopcblcfiaa
/- THE CELL 'sum', in the pinned program and in every row, IS THE sha256 OF THE DUMP (.gsa) THAT YthaddopcblcfiaaProg.lean LOADS. Nothing in Lean hashes anything: it is a label: what it is worth is what the hold of that sum in a sandbox is worth. -/
noncomputable def Try.pinned : Pinned := { name := "ythaddopcblcfiaa", sum := "e33274f96f4ec3418b23cbaef32ed5187f09d68bc687a7436a982f8ef923313f", checked := Try.checked }
namespace Rows
def none {H : Type} : Left H := { results := [], args := [] }

/-- 'laws.FnExactIsServer': WHATEVER THE INPUT: true; the input reads as it did. -/
def fnExactIsServerSpec : ChangeSpec := { name := "fnExactIsServer", fn := fun _ => fun
  | [d] => { results := [.lit (.bool true)], args := [d] }
  | _ => none }
def fnExactIsServerRow : OpenClaim := { program := "ythaddopcblcfiaa", sum := "e33274f96f4ec3418b23cbaef32ed5187f09d68bc687a7436a982f8ef923313f", func := "loop.example/g01176/laws.FnExactIsServer", spec := "fnExactIsServer", apart := false }
def FnExactIsServerSaid : Prop := fnExactIsServerRow.holds Try.pinned (OpenSpec.ofChange fnExactIsServerSpec)

/-- ITS FALSE NEIGHBOUR: 'it returns false'. Refute it at one input. -/
def fnExactIsServerWrong : ChangeSpec := { name := "fnExactIsServer", fn := fun _ => fun
  | [d] => { results := [.lit (.bool false)], args := [d] }
  | _ => none }
def FnExactIsServerWrongFalsely : Prop := fnExactIsServerRow.holds Try.pinned (OpenSpec.ofChange fnExactIsServerWrong)

/-- 'laws.FnExactIsBucket': WHATEVER THE INPUT: true; the input reads as it did. -/
def fnExactIsBucketSpec : ChangeSpec := { name := "fnExactIsBucket", fn := fun _ => fun
  | [d] => { results := [.lit (.bool true)], args := [d] }
  | _ => none }
def fnExactIsBucketRow : OpenClaim := { program := "ythaddopcblcfiaa", sum := "e33274f96f4ec3418b23cbaef32ed5187f09d68bc687a7436a982f8ef923313f", func := "loop.example/g01176/laws.FnExactIsBucket", spec := "fnExactIsBucket", apart := false }
def FnExactIsBucketSaid : Prop := fnExactIsBucketRow.holds Try.pinned (OpenSpec.ofChange fnExactIsBucketSpec)

/-- ITS FALSE NEIGHBOUR: 'it returns false'. Refute it at one input. -/
def fnExactIsBucketWrong : ChangeSpec := { name := "fnExactIsBucket", fn := fun _ => fun
  | [d] => { results := [.lit (.bool false)], args := [d] }
  | _ => none }
def FnExactIsBucketWrongFalsely : Prop := fnExactIsBucketRow.holds Try.pinned (OpenSpec.ofChange fnExactIsBucketWrong)

/-- 'laws.FnExactJoinBuckets': WHATEVER THE INPUT: true; the input reads as it did. -/
def fnExactJoinBucketsSpec : ChangeSpec := { name := "fnExactJoinBuckets", fn := fun _ => fun
  | [d1, d2] => { results := [.lit (.bool true)], args := [d1, d2] }
  | _ => none }
def fnExactJoinBucketsRow : OpenClaim := { program := "ythaddopcblcfiaa", sum := "e33274f96f4ec3418b23cbaef32ed5187f09d68bc687a7436a982f8ef923313f", func := "loop.example/g01176/laws.FnExactJoinBuckets", spec := "fnExactJoinBuckets", apart := false }
def FnExactJoinBucketsSaid : Prop := fnExactJoinBucketsRow.holds Try.pinned (OpenSpec.ofChange fnExactJoinBucketsSpec)

/-- ITS FALSE NEIGHBOUR: 'it returns false'. Refute it at one input. -/
def fnExactJoinBucketsWrong : ChangeSpec := { name := "fnExactJoinBuckets", fn := fun _ => fun
  | [d1, d2] => { results := [.lit (.bool false)], args := [d1, d2] }
  | _ => none }
def FnExactJoinBucketsWrongFalsely : Prop := fnExactJoinBucketsRow.holds Try.pinned (OpenSpec.ofChange fnExactJoinBucketsWrong)

/-- 'laws.FnExactIsTraffic': WHATEVER THE INPUT: true; the input reads as it did. -/
def fnExactIsTrafficSpec : ChangeSpec := { name := "fnExactIsTraffic", fn := fun _ => fun
  | [d] => { results := [.lit (.bool true)], args := [d] }
  | _ => none }
def fnExactIsTrafficRow : OpenClaim := { program := "ythaddopcblcfiaa", sum := "e33274f96f4ec3418b23cbaef32ed5187f09d68bc687a7436a982f8ef923313f", func := "loop.example/g01176/laws.FnExactIsTraffic", spec := "fnExactIsTraffic", unfollowed := true, recurses := true, apart := false }
def FnExactIsTrafficSaid : Prop := fnExactIsTrafficRow.holds Try.pinned (OpenSpec.ofChange fnExactIsTrafficSpec)

/-- ITS FALSE NEIGHBOUR: 'it returns false'. Refute it at one input. -/
def fnExactIsTrafficWrong : ChangeSpec := { name := "fnExactIsTraffic", fn := fun _ => fun
  | [d] => { results := [.lit (.bool false)], args := [d] }
  | _ => none }
def FnExactIsTrafficWrongFalsely : Prop := fnExactIsTrafficRow.holds Try.pinned (OpenSpec.ofChange fnExactIsTrafficWrong)

/-- 'laws.FnExactLeastDepth': WHATEVER THE INPUT: true; the input reads as it did. -/
def fnExactLeastDepthSpec : ChangeSpec := { name := "fnExactLeastDepth", fn := fun _ => fun
  | [d1, d2] => { results := [.lit (.bool true)], args := [d1, d2] }
  | _ => none }
def fnExactLeastDepthRow : OpenClaim := { program := "ythaddopcblcfiaa", sum := "e33274f96f4ec3418b23cbaef32ed5187f09d68bc687a7436a982f8ef923313f", func := "loop.example/g01176/laws.FnExactLeastDepth", spec := "fnExactLeastDepth", unfollowed := true, recurses := true, apart := false }
def FnExactLeastDepthSaid : Prop := fnExactLeastDepthRow.holds Try.pinned (OpenSpec.ofChange fnExactLeastDepthSpec)

/-- ITS FALSE NEIGHBOUR: 'it returns false'. Refute it at one input. -/
def fnExactLeastDepthWrong : ChangeSpec := { name := "fnExactLeastDepth", fn := fun _ => fun
  | [d1, d2] => { results := [.lit (.bool false)], args := [d1, d2] }
  | _ => none }
def FnExactLeastDepthWrongFalsely : Prop := fnExactLeastDepthRow.holds Try.pinned (OpenSpec.ofChange fnExactLeastDepthWrong)

/-- 'laws.FnExactAddTraffic': WHATEVER THE INPUT: true; the input reads as it did. -/
def fnExactAddTrafficSpec : ChangeSpec := { name := "fnExactAddTraffic", fn := fun _ => fun
  | [d1, d2] => { results := [.lit (.bool true)], args := [d1, d2] }
  | _ => none }
def fnExactAddTrafficRow : OpenClaim := { program := "ythaddopcblcfiaa", sum := "e33274f96f4ec3418b23cbaef32ed5187f09d68bc687a7436a982f8ef923313f", func := "loop.example/g01176/laws.FnExactAddTraffic", spec := "fnExactAddTraffic", unfollowed := true, recurses := true, apart := false }
def FnExactAddTrafficSaid : Prop := fnExactAddTrafficRow.holds Try.pinned (OpenSpec.ofChange fnExactAddTrafficSpec)

/-- ITS FALSE NEIGHBOUR: 'it returns false'. Refute it at one input. -/
def fnExactAddTrafficWrong : ChangeSpec := { name := "fnExactAddTraffic", fn := fun _ => fun
  | [d1, d2] => { results := [.lit (.bool false)], args := [d1, d2] }
  | _ => none }
def FnExactAddTrafficWrongFalsely : Prop := fnExactAddTrafficRow.holds Try.pinned (OpenSpec.ofChange fnExactAddTrafficWrong)

/-- 'laws.FnExactLeastRate': WHATEVER THE INPUT: true; the input reads as it did. -/
def fnExactLeastRateSpec : ChangeSpec := { name := "fnExactLeastRate", fn := fun _ => fun
  | [d1, d2] => { results := [.lit (.bool true)], args := [d1, d2] }
  | _ => none }
def fnExactLeastRateRow : OpenClaim := { program := "ythaddopcblcfiaa", sum := "e33274f96f4ec3418b23cbaef32ed5187f09d68bc687a7436a982f8ef923313f", func := "loop.example/g01176/laws.FnExactLeastRate", spec := "fnExactLeastRate", unfollowed := true, recurses := true, apart := false }
def FnExactLeastRateSaid : Prop := fnExactLeastRateRow.holds Try.pinned (OpenSpec.ofChange fnExactLeastRateSpec)

/-- ITS FALSE NEIGHBOUR: 'it returns false'. Refute it at one input. -/
def fnExactLeastRateWrong : ChangeSpec := { name := "fnExactLeastRate", fn := fun _ => fun
  | [d1, d2] => { results := [.lit (.bool false)], args := [d1, d2] }
  | _ => none }
def FnExactLeastRateWrongFalsely : Prop := fnExactLeastRateRow.holds Try.pinned (OpenSpec.ofChange fnExactLeastRateWrong)

/-- 'laws.FnExactKeepsBucket': WHATEVER THE INPUT: true; the input reads as it did. -/
def fnExactKeepsBucketSpec : ChangeSpec := { name := "fnExactKeepsBucket", fn := fun _ => fun
  | [d1, d2] => { results := [.lit (.bool true)], args := [d1, d2] }
  | _ => none }
def fnExactKeepsBucketRow : OpenClaim := { program := "ythaddopcblcfiaa", sum := "e33274f96f4ec3418b23cbaef32ed5187f09d68bc687a7436a982f8ef923313f", func := "loop.example/g01176/laws.FnExactKeepsBucket", spec := "fnExactKeepsBucket", unfollowed := true, recurses := true, apart := false }
def FnExactKeepsBucketSaid : Prop := fnExactKeepsBucketRow.holds Try.pinned (OpenSpec.ofChange fnExactKeepsBucketSpec)

/-- ITS FALSE NEIGHBOUR: 'it returns false'. Refute it at one input. -/
def fnExactKeepsBucketWrong : ChangeSpec := { name := "fnExactKeepsBucket", fn := fun _ => fun
  | [d1, d2] => { results := [.lit (.bool false)], args := [d1, d2] }
  | _ => none }
def FnExactKeepsBucketWrongFalsely : Prop := fnExactKeepsBucketRow.holds Try.pinned (OpenSpec.ofChange fnExactKeepsBucketWrong)

/-- 'laws.FnExactKeepsBoth': WHATEVER THE INPUT: true; the input reads as it did. -/
def fnExactKeepsBothSpec : ChangeSpec := { name := "fnExactKeepsBoth", fn := fun _ => fun
  | [d1, d2, d3] => { results := [.lit (.bool true)], args := [d1, d2, d3] }
  | _ => none }
def fnExactKeepsBothRow : OpenClaim := { program := "ythaddopcblcfiaa", sum := "e33274f96f4ec3418b23cbaef32ed5187f09d68bc687a7436a982f8ef923313f", func := "loop.example/g01176/laws.FnExactKeepsBoth", spec := "fnExactKeepsBoth", unfollowed := true, recurses := true, apart := false }
def FnExactKeepsBothSaid : Prop := fnExactKeepsBothRow.holds Try.pinned (OpenSpec.ofChange fnExactKeepsBothSpec)

/-- ITS FALSE NEIGHBOUR: 'it returns false'. Refute it at one input. -/
def fnExactKeepsBothWrong : ChangeSpec := { name := "fnExactKeepsBoth", fn := fun _ => fun
  | [d1, d2, d3] => { results := [.lit (.bool false)], args := [d1, d2, d3] }
  | _ => none }
def FnExactKeepsBothWrongFalsely : Prop := fnExactKeepsBothRow.holds Try.pinned (OpenSpec.ofChange fnExactKeepsBothWrong)

/-- 'laws.FnExactWindowsOf': WHATEVER THE INPUT: true; the input reads as it did. -/
def fnExactWindowsOfSpec : ChangeSpec := { name := "fnExactWindowsOf", fn := fun _ => fun
  | [d] => { results := [.lit (.bool true)], args := [d] }
  | _ => none }
def fnExactWindowsOfRow : OpenClaim := { program := "ythaddopcblcfiaa", sum := "e33274f96f4ec3418b23cbaef32ed5187f09d68bc687a7436a982f8ef923313f", func := "loop.example/g01176/laws.FnExactWindowsOf", spec := "fnExactWindowsOf", unfollowed := true, recurses := true, apart := false }
def FnExactWindowsOfSaid : Prop := fnExactWindowsOfRow.holds Try.pinned (OpenSpec.ofChange fnExactWindowsOfSpec)

/-- ITS FALSE NEIGHBOUR: 'it returns false'. Refute it at one input. -/
def fnExactWindowsOfWrong : ChangeSpec := { name := "fnExactWindowsOf", fn := fun _ => fun
  | [d] => { results := [.lit (.bool false)], args := [d] }
  | _ => none }
def FnExactWindowsOfWrongFalsely : Prop := fnExactWindowsOfRow.holds Try.pinned (OpenSpec.ofChange fnExactWindowsOfWrong)

/-- 'laws.FnExactFirstBreach': WHATEVER THE INPUT: true; the input reads as it did. -/
def fnExactFirstBreachSpec : ChangeSpec := { name := "fnExactFirstBreach", fn := fun _ => fun
  | [d1, d2] => { results := [.lit (.bool true)], args := [d1, d2] }
  | _ => none }
def fnExactFirstBreachRow : OpenClaim := { program := "ythaddopcblcfiaa", sum := "e33274f96f4ec3418b23cbaef32ed5187f09d68bc687a7436a982f8ef923313f", func := "loop.example/g01176/laws.FnExactFirstBreach", spec := "fnExactFirstBreach", unfollowed := true, recurses := true, apart := false }
def FnExactFirstBreachSaid : Prop := fnExactFirstBreachRow.holds Try.pinned (OpenSpec.ofChange fnExactFirstBreachSpec)

/-- ITS FALSE NEIGHBOUR: 'it returns false'. Refute it at one input. -/
def fnExactFirstBreachWrong : ChangeSpec := { name := "fnExactFirstBreach", fn := fun _ => fun
  | [d1, d2] => { results := [.lit (.bool false)], args := [d1, d2] }
  | _ => none }
def FnExactFirstBreachWrongFalsely : Prop := fnExactFirstBreachRow.holds Try.pinned (OpenSpec.ofChange fnExactFirstBreachWrong)

/- THE SECOND FORM. 'bulk': how many values and letters a reading holds, each counted each time it is reached (what is shared counts as often as it is met; a slice's spare places count too). A statement '..UptoSaid' is the law's where the arguments, and the package variables that the reading takes, are together of bulk at most 1048576: NARROWER than '..Said'. Prove '..Said' where nothing that the law and all that it calls make is longer than what came in: it says more and counts as full. Else prove '..UptoSaid'. A law counts once. -/
mutual
def uptoBulk {H : Type} : DataW H → Nat
  | .lit (.string bytes) => bytes.length + 1
  | .lit _ => 1
  | .nil => 1
  | .ptr d => uptoBulk d + 1
  | .slice elems spare => uptoBulkAll elems + uptoBulkAll spare + 1
  | .agg parts => uptoBulkAll parts + 1
  | .iface _ d => uptoBulk d + 1
  | .map entries => uptoBulkEntries entries + 1
  | .held _ => 1
def uptoBulkAll {H : Type} : List (DataW H) → Nat
  | [] => 0
  | d :: r => uptoBulk d + uptoBulkAll r
def uptoBulkEntries {H : Type} : List (Lit × DataW H) → Nat
  | [] => 0
  | x :: r => uptoBulkEntry x + uptoBulkEntries r
def uptoBulkEntry {H : Type} : Lit × DataW H → Nat
  | (.string bytes, d) => bytes.length + uptoBulk d + 1
  | (_, d) => uptoBulk d + 1
 end
def uptoSmall : (H : Type) → List (DataW H) → Bool := fun _ ds => decide (uptoBulkAll ds ≤ 1048576)
def OpenSpec.upto (s : _root_.Go.ChangeSpec) : _root_.Go.OpenSpec := { _root_.Go.OpenSpec.ofChange s with cond := some uptoSmall }

/-- 'laws.FnExactIsServer', WHERE WHAT IT READS IS OF BULK AT MOST 1048576: true; the input reads as it did. -/
def fnExactIsServerUptoRow : OpenClaim := { program := "ythaddopcblcfiaa", sum := "e33274f96f4ec3418b23cbaef32ed5187f09d68bc687a7436a982f8ef923313f", func := "loop.example/g01176/laws.FnExactIsServer", spec := "fnExactIsServer", apart := false, narrowed := true }
def FnExactIsServerUptoSaid : Prop := fnExactIsServerUptoRow.holds Try.pinned (OpenSpec.upto fnExactIsServerSpec)

/-- 'laws.FnExactIsBucket', WHERE WHAT IT READS IS OF BULK AT MOST 1048576: true; the input reads as it did. -/
def fnExactIsBucketUptoRow : OpenClaim := { program := "ythaddopcblcfiaa", sum := "e33274f96f4ec3418b23cbaef32ed5187f09d68bc687a7436a982f8ef923313f", func := "loop.example/g01176/laws.FnExactIsBucket", spec := "fnExactIsBucket", apart := false, narrowed := true }
def FnExactIsBucketUptoSaid : Prop := fnExactIsBucketUptoRow.holds Try.pinned (OpenSpec.upto fnExactIsBucketSpec)

/-- 'laws.FnExactJoinBuckets', WHERE WHAT IT READS IS OF BULK AT MOST 1048576: true; the input reads as it did. -/
def fnExactJoinBucketsUptoRow : OpenClaim := { program := "ythaddopcblcfiaa", sum := "e33274f96f4ec3418b23cbaef32ed5187f09d68bc687a7436a982f8ef923313f", func := "loop.example/g01176/laws.FnExactJoinBuckets", spec := "fnExactJoinBuckets", apart := false, narrowed := true }
def FnExactJoinBucketsUptoSaid : Prop := fnExactJoinBucketsUptoRow.holds Try.pinned (OpenSpec.upto fnExactJoinBucketsSpec)

/-- 'laws.FnExactIsTraffic', WHERE WHAT IT READS IS OF BULK AT MOST 1048576: true; the input reads as it did. -/
def fnExactIsTrafficUptoRow : OpenClaim := { program := "ythaddopcblcfiaa", sum := "e33274f96f4ec3418b23cbaef32ed5187f09d68bc687a7436a982f8ef923313f", func := "loop.example/g01176/laws.FnExactIsTraffic", spec := "fnExactIsTraffic", unfollowed := true, recurses := true, apart := false, narrowed := true }
def FnExactIsTrafficUptoSaid : Prop := fnExactIsTrafficUptoRow.holds Try.pinned (OpenSpec.upto fnExactIsTrafficSpec)

/-- 'laws.FnExactLeastDepth', WHERE WHAT IT READS IS OF BULK AT MOST 1048576: true; the input reads as it did. -/
def fnExactLeastDepthUptoRow : OpenClaim := { program := "ythaddopcblcfiaa", sum := "e33274f96f4ec3418b23cbaef32ed5187f09d68bc687a7436a982f8ef923313f", func := "loop.example/g01176/laws.FnExactLeastDepth", spec := "fnExactLeastDepth", unfollowed := true, recurses := true, apart := false, narrowed := true }
def FnExactLeastDepthUptoSaid : Prop := fnExactLeastDepthUptoRow.holds Try.pinned (OpenSpec.upto fnExactLeastDepthSpec)

/-- 'laws.FnExactAddTraffic', WHERE WHAT IT READS IS OF BULK AT MOST 1048576: true; the input reads as it did. -/
def fnExactAddTrafficUptoRow : OpenClaim := { program := "ythaddopcblcfiaa", sum := "e33274f96f4ec3418b23cbaef32ed5187f09d68bc687a7436a982f8ef923313f", func := "loop.example/g01176/laws.FnExactAddTraffic", spec := "fnExactAddTraffic", unfollowed := true, recurses := true, apart := false, narrowed := true }
def FnExactAddTrafficUptoSaid : Prop := fnExactAddTrafficUptoRow.holds Try.pinned (OpenSpec.upto fnExactAddTrafficSpec)

/-- 'laws.FnExactLeastRate', WHERE WHAT IT READS IS OF BULK AT MOST 1048576: true; the input reads as it did. -/
def fnExactLeastRateUptoRow : OpenClaim := { program := "ythaddopcblcfiaa", sum := "e33274f96f4ec3418b23cbaef32ed5187f09d68bc687a7436a982f8ef923313f", func := "loop.example/g01176/laws.FnExactLeastRate", spec := "fnExactLeastRate", unfollowed := true, recurses := true, apart := false, narrowed := true }
def FnExactLeastRateUptoSaid : Prop := fnExactLeastRateUptoRow.holds Try.pinned (OpenSpec.upto fnExactLeastRateSpec)

/-- 'laws.FnExactKeepsBucket', WHERE WHAT IT READS IS OF BULK AT MOST 1048576: true; the input reads as it did. -/
def fnExactKeepsBucketUptoRow : OpenClaim := { program := "ythaddopcblcfiaa", sum := "e33274f96f4ec3418b23cbaef32ed5187f09d68bc687a7436a982f8ef923313f", func := "loop.example/g01176/laws.FnExactKeepsBucket", spec := "fnExactKeepsBucket", unfollowed := true, recurses := true, apart := false, narrowed := true }
def FnExactKeepsBucketUptoSaid : Prop := fnExactKeepsBucketUptoRow.holds Try.pinned (OpenSpec.upto fnExactKeepsBucketSpec)

/-- 'laws.FnExactKeepsBoth', WHERE WHAT IT READS IS OF BULK AT MOST 1048576: true; the input reads as it did. -/
def fnExactKeepsBothUptoRow : OpenClaim := { program := "ythaddopcblcfiaa", sum := "e33274f96f4ec3418b23cbaef32ed5187f09d68bc687a7436a982f8ef923313f", func := "loop.example/g01176/laws.FnExactKeepsBoth", spec := "fnExactKeepsBoth", unfollowed := true, recurses := true, apart := false, narrowed := true }
def FnExactKeepsBothUptoSaid : Prop := fnExactKeepsBothUptoRow.holds Try.pinned (OpenSpec.upto fnExactKeepsBothSpec)

/-- 'laws.FnExactWindowsOf', WHERE WHAT IT READS IS OF BULK AT MOST 1048576: true; the input reads as it did. -/
def fnExactWindowsOfUptoRow : OpenClaim := { program := "ythaddopcblcfiaa", sum := "e33274f96f4ec3418b23cbaef32ed5187f09d68bc687a7436a982f8ef923313f", func := "loop.example/g01176/laws.FnExactWindowsOf", spec := "fnExactWindowsOf", unfollowed := true, recurses := true, apart := false, narrowed := true }
def FnExactWindowsOfUptoSaid : Prop := fnExactWindowsOfUptoRow.holds Try.pinned (OpenSpec.upto fnExactWindowsOfSpec)

/-- 'laws.FnExactFirstBreach', WHERE WHAT IT READS IS OF BULK AT MOST 1048576: true; the input reads as it did. -/
def fnExactFirstBreachUptoRow : OpenClaim := { program := "ythaddopcblcfiaa", sum := "e33274f96f4ec3418b23cbaef32ed5187f09d68bc687a7436a982f8ef923313f", func := "loop.example/g01176/laws.FnExactFirstBreach", spec := "fnExactFirstBreach", unfollowed := true, recurses := true, apart := false, narrowed := true }
def FnExactFirstBreachUptoSaid : Prop := fnExactFirstBreachUptoRow.holds Try.pinned (OpenSpec.upto fnExactFirstBreachSpec)

end Rows
end Go.Proofs.Ythaddopcblcfiaa
