/-
  No cell of these rows narrows 'for every input' (looked for: loops, veiled, ifaces, maps, wideKeys, modest, calm, conditions, laid).
  DERIVED. THE GIVEN ROWS OF THIS SEAT. 12 by the template 'for every input the law returns true; each argument reads behind the call as it read before'; 0 by the template 'total and deterministic' (their statements: YtbiiklkkfkipeaaTotals.lean).
  GIVEN WITH THE SEED: the statements are not yours to turn. If you find one false, say at which input.
  Laid BY PROGRAM, IN A SANDBOX (cutbox-rows.mjs): the forced cells as the released guide's own fill.sh prints them over the translation e8acfa2c4ddabb9e… (all of the seat's roots in one cut). By AI agents, Wed Nov 11 2026. No macro, syntax, notation, axiom, sorry.
-/
import Derived.Test.YtbiiklkkfkipeaaChecked
import GoSem.Claim
import GoSem.ClaimJoined
import GoSem.ClaimMapViews
import Derived.JoinedTies
import Derived.KernelRfl
namespace Go.Proofs.Ytbiiklkkfkipeaa
/- THE CELL 'sum', in the pinned program and in every row, IS THE sha256 OF THE DUMP (.gsa) THAT YtbiiklkkfkipeaaProg.lean LOADS. Nothing in Lean hashes anything: it is a label: what it is worth is what the hold of that sum in a sandbox is worth. -/
noncomputable def Try.pinned : Pinned := { name := "ytbiiklkkfkipeaa", sum := "e8acfa2c4ddabb9e9fe4b72bfe4916d4580feb4c3f50507dea7b3ef7df58817f", checked := Try.checked }
namespace Rows
def none {H : Type} : Left H := { results := [], args := [] }

/-- 'laws.FnExactSumOfMessages': WHATEVER THE INPUT: true; the input reads as it did. -/
def fnExactSumOfMessagesSpec : ChangeSpec := { name := "fnExactSumOfMessages", fn := fun _ => fun
  | [d] => { results := [.lit (.bool true)], args := [d] }
  | _ => none }
def fnExactSumOfMessagesRow : OpenClaim := { program := "ytbiiklkkfkipeaa", sum := "e8acfa2c4ddabb9e9fe4b72bfe4916d4580feb4c3f50507dea7b3ef7df58817f", func := "loop.example/g01176/laws.FnExactSumOfMessages", spec := "fnExactSumOfMessages", apart := false }
def FnExactSumOfMessagesSaid : Prop := fnExactSumOfMessagesRow.holds Try.pinned (OpenSpec.ofChange fnExactSumOfMessagesSpec)

/-- ITS FALSE NEIGHBOUR: 'it returns false'. Refute it at one input. -/
def fnExactSumOfMessagesWrong : ChangeSpec := { name := "fnExactSumOfMessages", fn := fun _ => fun
  | [d] => { results := [.lit (.bool false)], args := [d] }
  | _ => none }
def FnExactSumOfMessagesWrongFalsely : Prop := fnExactSumOfMessagesRow.holds Try.pinned (OpenSpec.ofChange fnExactSumOfMessagesWrong)

/-- 'laws.FnExactAreNames': WHATEVER THE INPUT: true; the input reads as it did. -/
def fnExactAreNamesSpec : ChangeSpec := { name := "fnExactAreNames", fn := fun _ => fun
  | [d] => { results := [.lit (.bool true)], args := [d] }
  | _ => none }
def fnExactAreNamesRow : OpenClaim := { program := "ytbiiklkkfkipeaa", sum := "e8acfa2c4ddabb9e9fe4b72bfe4916d4580feb4c3f50507dea7b3ef7df58817f", func := "loop.example/g01176/laws.FnExactAreNames", spec := "fnExactAreNames", unfollowed := true, recurses := true, apart := false }
def FnExactAreNamesSaid : Prop := fnExactAreNamesRow.holds Try.pinned (OpenSpec.ofChange fnExactAreNamesSpec)

/-- ITS FALSE NEIGHBOUR: 'it returns false'. Refute it at one input. -/
def fnExactAreNamesWrong : ChangeSpec := { name := "fnExactAreNames", fn := fun _ => fun
  | [d] => { results := [.lit (.bool false)], args := [d] }
  | _ => none }
def FnExactAreNamesWrongFalsely : Prop := fnExactAreNamesRow.holds Try.pinned (OpenSpec.ofChange fnExactAreNamesWrong)

/-- 'laws.FnExactWinnerOf': WHATEVER THE INPUT: true; the input reads as it did. -/
def fnExactWinnerOfSpec : ChangeSpec := { name := "fnExactWinnerOf", fn := fun _ => fun
  | [d] => { results := [.lit (.bool true)], args := [d] }
  | _ => none }
def fnExactWinnerOfRow : OpenClaim := { program := "ytbiiklkkfkipeaa", sum := "e8acfa2c4ddabb9e9fe4b72bfe4916d4580feb4c3f50507dea7b3ef7df58817f", func := "loop.example/g01176/laws.FnExactWinnerOf", spec := "fnExactWinnerOf", unfollowed := true, recurses := true, apart := false }
def FnExactWinnerOfSaid : Prop := fnExactWinnerOfRow.holds Try.pinned (OpenSpec.ofChange fnExactWinnerOfSpec)

/-- ITS FALSE NEIGHBOUR: 'it returns false'. Refute it at one input. -/
def fnExactWinnerOfWrong : ChangeSpec := { name := "fnExactWinnerOf", fn := fun _ => fun
  | [d] => { results := [.lit (.bool false)], args := [d] }
  | _ => none }
def FnExactWinnerOfWrongFalsely : Prop := fnExactWinnerOfRow.holds Try.pinned (OpenSpec.ofChange fnExactWinnerOfWrong)

/-- 'laws.FnExactPassedOn': WHATEVER THE INPUT: true; the input reads as it did. -/
def fnExactPassedOnSpec : ChangeSpec := { name := "fnExactPassedOn", fn := fun _ => fun
  | [d] => { results := [.lit (.bool true)], args := [d] }
  | _ => none }
def fnExactPassedOnRow : OpenClaim := { program := "ytbiiklkkfkipeaa", sum := "e8acfa2c4ddabb9e9fe4b72bfe4916d4580feb4c3f50507dea7b3ef7df58817f", func := "loop.example/g01176/laws.FnExactPassedOn", spec := "fnExactPassedOn", unfollowed := true, recurses := true, apart := false }
def FnExactPassedOnSaid : Prop := fnExactPassedOnRow.holds Try.pinned (OpenSpec.ofChange fnExactPassedOnSpec)

/-- ITS FALSE NEIGHBOUR: 'it returns false'. Refute it at one input. -/
def fnExactPassedOnWrong : ChangeSpec := { name := "fnExactPassedOn", fn := fun _ => fun
  | [d] => { results := [.lit (.bool false)], args := [d] }
  | _ => none }
def FnExactPassedOnWrongFalsely : Prop := fnExactPassedOnRow.holds Try.pinned (OpenSpec.ofChange fnExactPassedOnWrong)

/-- 'laws.FnExactSimpleMessages': WHATEVER THE INPUT: true; the input reads as it did. -/
def fnExactSimpleMessagesSpec : ChangeSpec := { name := "fnExactSimpleMessages", fn := fun _ => fun
  | [d] => { results := [.lit (.bool true)], args := [d] }
  | _ => none }
def fnExactSimpleMessagesRow : OpenClaim := { program := "ytbiiklkkfkipeaa", sum := "e8acfa2c4ddabb9e9fe4b72bfe4916d4580feb4c3f50507dea7b3ef7df58817f", func := "loop.example/g01176/laws.FnExactSimpleMessages", spec := "fnExactSimpleMessages", unfollowed := true, recurses := true, apart := false }
def FnExactSimpleMessagesSaid : Prop := fnExactSimpleMessagesRow.holds Try.pinned (OpenSpec.ofChange fnExactSimpleMessagesSpec)

/-- ITS FALSE NEIGHBOUR: 'it returns false'. Refute it at one input. -/
def fnExactSimpleMessagesWrong : ChangeSpec := { name := "fnExactSimpleMessages", fn := fun _ => fun
  | [d] => { results := [.lit (.bool false)], args := [d] }
  | _ => none }
def FnExactSimpleMessagesWrongFalsely : Prop := fnExactSimpleMessagesRow.holds Try.pinned (OpenSpec.ofChange fnExactSimpleMessagesWrong)

/-- 'laws.FnExactBestNames': WHATEVER THE INPUT: true; the input reads as it did. -/
def fnExactBestNamesSpec : ChangeSpec := { name := "fnExactBestNames", fn := fun _ => fun
  | [d] => { results := [.lit (.bool true)], args := [d] }
  | _ => none }
def fnExactBestNamesRow : OpenClaim := { program := "ytbiiklkkfkipeaa", sum := "e8acfa2c4ddabb9e9fe4b72bfe4916d4580feb4c3f50507dea7b3ef7df58817f", func := "loop.example/g01176/laws.FnExactBestNames", spec := "fnExactBestNames", unfollowed := true, recurses := true, apart := false }
def FnExactBestNamesSaid : Prop := fnExactBestNamesRow.holds Try.pinned (OpenSpec.ofChange fnExactBestNamesSpec)

/-- ITS FALSE NEIGHBOUR: 'it returns false'. Refute it at one input. -/
def fnExactBestNamesWrong : ChangeSpec := { name := "fnExactBestNames", fn := fun _ => fun
  | [d] => { results := [.lit (.bool false)], args := [d] }
  | _ => none }
def FnExactBestNamesWrongFalsely : Prop := fnExactBestNamesRow.holds Try.pinned (OpenSpec.ofChange fnExactBestNamesWrong)

/-- 'laws.FnExactWorstNames': WHATEVER THE INPUT: true; the input reads as it did. -/
def fnExactWorstNamesSpec : ChangeSpec := { name := "fnExactWorstNames", fn := fun _ => fun
  | [d] => { results := [.lit (.bool true)], args := [d] }
  | _ => none }
def fnExactWorstNamesRow : OpenClaim := { program := "ytbiiklkkfkipeaa", sum := "e8acfa2c4ddabb9e9fe4b72bfe4916d4580feb4c3f50507dea7b3ef7df58817f", func := "loop.example/g01176/laws.FnExactWorstNames", spec := "fnExactWorstNames", unfollowed := true, recurses := true, apart := false }
def FnExactWorstNamesSaid : Prop := fnExactWorstNamesRow.holds Try.pinned (OpenSpec.ofChange fnExactWorstNamesSpec)

/-- ITS FALSE NEIGHBOUR: 'it returns false'. Refute it at one input. -/
def fnExactWorstNamesWrong : ChangeSpec := { name := "fnExactWorstNames", fn := fun _ => fun
  | [d] => { results := [.lit (.bool false)], args := [d] }
  | _ => none }
def FnExactWorstNamesWrongFalsely : Prop := fnExactWorstNamesRow.holds Try.pinned (OpenSpec.ofChange fnExactWorstNamesWrong)

/-- 'laws.FnExactRoundMessages': WHATEVER THE INPUT: true; the input reads as it did. -/
def fnExactRoundMessagesSpec : ChangeSpec := { name := "fnExactRoundMessages", fn := fun _ => fun
  | [d] => { results := [.lit (.bool true)], args := [d] }
  | _ => none }
def fnExactRoundMessagesRow : OpenClaim := { program := "ytbiiklkkfkipeaa", sum := "e8acfa2c4ddabb9e9fe4b72bfe4916d4580feb4c3f50507dea7b3ef7df58817f", func := "loop.example/g01176/laws.FnExactRoundMessages", spec := "fnExactRoundMessages", unfollowed := true, recurses := true, apart := false }
def FnExactRoundMessagesSaid : Prop := fnExactRoundMessagesRow.holds Try.pinned (OpenSpec.ofChange fnExactRoundMessagesSpec)

/-- ITS FALSE NEIGHBOUR: 'it returns false'. Refute it at one input. -/
def fnExactRoundMessagesWrong : ChangeSpec := { name := "fnExactRoundMessages", fn := fun _ => fun
  | [d] => { results := [.lit (.bool false)], args := [d] }
  | _ => none }
def FnExactRoundMessagesWrongFalsely : Prop := fnExactRoundMessagesRow.holds Try.pinned (OpenSpec.ofChange fnExactRoundMessagesWrong)

/-- 'laws.FnExactBothWays': WHATEVER THE INPUT: true; the input reads as it did. -/
def fnExactBothWaysSpec : ChangeSpec := { name := "fnExactBothWays", fn := fun _ => fun
  | [d] => { results := [.lit (.bool true)], args := [d] }
  | _ => none }
def fnExactBothWaysRow : OpenClaim := { program := "ytbiiklkkfkipeaa", sum := "e8acfa2c4ddabb9e9fe4b72bfe4916d4580feb4c3f50507dea7b3ef7df58817f", func := "loop.example/g01176/laws.FnExactBothWays", spec := "fnExactBothWays", unfollowed := true, recurses := true, apart := false }
def FnExactBothWaysSaid : Prop := fnExactBothWaysRow.holds Try.pinned (OpenSpec.ofChange fnExactBothWaysSpec)

/-- ITS FALSE NEIGHBOUR: 'it returns false'. Refute it at one input. -/
def fnExactBothWaysWrong : ChangeSpec := { name := "fnExactBothWays", fn := fun _ => fun
  | [d] => { results := [.lit (.bool false)], args := [d] }
  | _ => none }
def FnExactBothWaysWrongFalsely : Prop := fnExactBothWaysRow.holds Try.pinned (OpenSpec.ofChange fnExactBothWaysWrong)

/-- 'laws.FnExactSurvivorsOf': WHATEVER THE INPUT: true; the input reads as it did. -/
def fnExactSurvivorsOfSpec : ChangeSpec := { name := "fnExactSurvivorsOf", fn := fun _ => fun
  | [d] => { results := [.lit (.bool true)], args := [d] }
  | _ => none }
def fnExactSurvivorsOfRow : OpenClaim := { program := "ytbiiklkkfkipeaa", sum := "e8acfa2c4ddabb9e9fe4b72bfe4916d4580feb4c3f50507dea7b3ef7df58817f", func := "loop.example/g01176/laws.FnExactSurvivorsOf", spec := "fnExactSurvivorsOf", unfollowed := true, recurses := true, apart := false }
def FnExactSurvivorsOfSaid : Prop := fnExactSurvivorsOfRow.holds Try.pinned (OpenSpec.ofChange fnExactSurvivorsOfSpec)

/-- ITS FALSE NEIGHBOUR: 'it returns false'. Refute it at one input. -/
def fnExactSurvivorsOfWrong : ChangeSpec := { name := "fnExactSurvivorsOf", fn := fun _ => fun
  | [d] => { results := [.lit (.bool false)], args := [d] }
  | _ => none }
def FnExactSurvivorsOfWrongFalsely : Prop := fnExactSurvivorsOfRow.holds Try.pinned (OpenSpec.ofChange fnExactSurvivorsOfWrong)

/-- 'laws.FnRoundsEnd': WHATEVER THE INPUT: true; the input reads as it did. -/
def fnRoundsEndSpec : ChangeSpec := { name := "fnRoundsEnd", fn := fun _ => fun
  | [d1, d2] => { results := [.lit (.bool true)], args := [d1, d2] }
  | _ => none }
def fnRoundsEndRow : OpenClaim := { program := "ytbiiklkkfkipeaa", sum := "e8acfa2c4ddabb9e9fe4b72bfe4916d4580feb4c3f50507dea7b3ef7df58817f", func := "loop.example/g01176/laws.FnRoundsEnd", spec := "fnRoundsEnd", unfollowed := true, recurses := true, apart := false }
def FnRoundsEndSaid : Prop := fnRoundsEndRow.holds Try.pinned (OpenSpec.ofChange fnRoundsEndSpec)

/-- ITS FALSE NEIGHBOUR: 'it returns false'. Refute it at one input. -/
def fnRoundsEndWrong : ChangeSpec := { name := "fnRoundsEnd", fn := fun _ => fun
  | [d1, d2] => { results := [.lit (.bool false)], args := [d1, d2] }
  | _ => none }
def FnRoundsEndWrongFalsely : Prop := fnRoundsEndRow.holds Try.pinned (OpenSpec.ofChange fnRoundsEndWrong)

/-- 'laws.FnElectionsEnd': WHATEVER THE INPUT: true; the input reads as it did. -/
def fnElectionsEndSpec : ChangeSpec := { name := "fnElectionsEnd", fn := fun _ => fun
  | [d1, d2] => { results := [.lit (.bool true)], args := [d1, d2] }
  | _ => none }
def fnElectionsEndRow : OpenClaim := { program := "ytbiiklkkfkipeaa", sum := "e8acfa2c4ddabb9e9fe4b72bfe4916d4580feb4c3f50507dea7b3ef7df58817f", func := "loop.example/g01176/laws.FnElectionsEnd", spec := "fnElectionsEnd", unfollowed := true, recurses := true, apart := false }
def FnElectionsEndSaid : Prop := fnElectionsEndRow.holds Try.pinned (OpenSpec.ofChange fnElectionsEndSpec)

/-- ITS FALSE NEIGHBOUR: 'it returns false'. Refute it at one input. -/
def fnElectionsEndWrong : ChangeSpec := { name := "fnElectionsEnd", fn := fun _ => fun
  | [d1, d2] => { results := [.lit (.bool false)], args := [d1, d2] }
  | _ => none }
def FnElectionsEndWrongFalsely : Prop := fnElectionsEndRow.holds Try.pinned (OpenSpec.ofChange fnElectionsEndWrong)

/- THE SECOND FORM. 'bulk': how many values and letters a reading holds, each counted each time it is reached (what is shared counts as often as it is met; a slice's spare places count too). A statement '..UptoSaid' is the law's where the arguments, and the package variables that the reading takes, are together of bulk at most 1048576: NARROWER than '..Said'. Prove '..Said' where nothing that the law and all that it calls make is longer than what came in: it says more and counts as full. Else prove '..UptoSaid'. A law counts once. -/
mutual
def uptoBulk {H : Type} : DataW H → Nat
  | .lit (.string bytes) => bytes.length + 1
  | .lit _ => 1
  | .nil => 1
  | .ptr d => uptoBulk d + 1
  | .slice elems spare => uptoBulkAll elems + uptoBulkAll spare + 1
  | .agg parts => uptoBulkAll parts + 1
  | .iface _ d => uptoBulk d + 1
  | .map entries => uptoBulkEntries entries + 1
  | .held _ => 1
def uptoBulkAll {H : Type} : List (DataW H) → Nat
  | [] => 0
  | d :: r => uptoBulk d + uptoBulkAll r
def uptoBulkEntries {H : Type} : List (Lit × DataW H) → Nat
  | [] => 0
  | x :: r => uptoBulkEntry x + uptoBulkEntries r
def uptoBulkEntry {H : Type} : Lit × DataW H → Nat
  | (.string bytes, d) => bytes.length + uptoBulk d + 1
  | (_, d) => uptoBulk d + 1
 end
def uptoSmall : (H : Type) → List (DataW H) → Bool := fun _ ds => decide (uptoBulkAll ds ≤ 1048576)
def OpenSpec.upto (s : _root_.Go.ChangeSpec) : _root_.Go.OpenSpec := { _root_.Go.OpenSpec.ofChange s with cond := some uptoSmall }

/-- 'laws.FnExactSumOfMessages', WHERE WHAT IT READS IS OF BULK AT MOST 1048576: true; the input reads as it did. -/
def fnExactSumOfMessagesUptoRow : OpenClaim := { program := "ytbiiklkkfkipeaa", sum := "e8acfa2c4ddabb9e9fe4b72bfe4916d4580feb4c3f50507dea7b3ef7df58817f", func := "loop.example/g01176/laws.FnExactSumOfMessages", spec := "fnExactSumOfMessages", apart := false, narrowed := true }
def FnExactSumOfMessagesUptoSaid : Prop := fnExactSumOfMessagesUptoRow.holds Try.pinned (OpenSpec.upto fnExactSumOfMessagesSpec)

/-- 'laws.FnExactAreNames', WHERE WHAT IT READS IS OF BULK AT MOST 1048576: true; the input reads as it did. -/
def fnExactAreNamesUptoRow : OpenClaim := { program := "ytbiiklkkfkipeaa", sum := "e8acfa2c4ddabb9e9fe4b72bfe4916d4580feb4c3f50507dea7b3ef7df58817f", func := "loop.example/g01176/laws.FnExactAreNames", spec := "fnExactAreNames", unfollowed := true, recurses := true, apart := false, narrowed := true }
def FnExactAreNamesUptoSaid : Prop := fnExactAreNamesUptoRow.holds Try.pinned (OpenSpec.upto fnExactAreNamesSpec)

/-- 'laws.FnExactWinnerOf', WHERE WHAT IT READS IS OF BULK AT MOST 1048576: true; the input reads as it did. -/
def fnExactWinnerOfUptoRow : OpenClaim := { program := "ytbiiklkkfkipeaa", sum := "e8acfa2c4ddabb9e9fe4b72bfe4916d4580feb4c3f50507dea7b3ef7df58817f", func := "loop.example/g01176/laws.FnExactWinnerOf", spec := "fnExactWinnerOf", unfollowed := true, recurses := true, apart := false, narrowed := true }
def FnExactWinnerOfUptoSaid : Prop := fnExactWinnerOfUptoRow.holds Try.pinned (OpenSpec.upto fnExactWinnerOfSpec)

/-- 'laws.FnExactPassedOn', WHERE WHAT IT READS IS OF BULK AT MOST 1048576: true; the input reads as it did. -/
def fnExactPassedOnUptoRow : OpenClaim := { program := "ytbiiklkkfkipeaa", sum := "e8acfa2c4ddabb9e9fe4b72bfe4916d4580feb4c3f50507dea7b3ef7df58817f", func := "loop.example/g01176/laws.FnExactPassedOn", spec := "fnExactPassedOn", unfollowed := true, recurses := true, apart := false, narrowed := true }
def FnExactPassedOnUptoSaid : Prop := fnExactPassedOnUptoRow.holds Try.pinned (OpenSpec.upto fnExactPassedOnSpec)

/-- 'laws.FnExactSimpleMessages', WHERE WHAT IT READS IS OF BULK AT MOST 1048576: true; the input reads as it did. -/
def fnExactSimpleMessagesUptoRow : OpenClaim := { program := "ytbiiklkkfkipeaa", sum := "e8acfa2c4ddabb9e9fe4b72bfe4916d4580feb4c3f50507dea7b3ef7df58817f", func := "loop.example/g01176/laws.FnExactSimpleMessages", spec := "fnExactSimpleMessages", unfollowed := true, recurses := true, apart := false, narrowed := true }
def FnExactSimpleMessagesUptoSaid : Prop := fnExactSimpleMessagesUptoRow.holds Try.pinned (OpenSpec.upto fnExactSimpleMessagesSpec)

/-- 'laws.FnExactBestNames', WHERE WHAT IT READS IS OF BULK AT MOST 1048576: true; the input reads as it did. -/
def fnExactBestNamesUptoRow : OpenClaim := { program := "ytbiiklkkfkipeaa", sum := "e8acfa2c4ddabb9e9fe4b72bfe4916d4580feb4c3f50507dea7b3ef7df58817f", func := "loop.example/g01176/laws.FnExactBestNames", spec := "fnExactBestNames", unfollowed := true, recurses := true, apart := false, narrowed := true }
def FnExactBestNamesUptoSaid : Prop := fnExactBestNamesUptoRow.holds Try.pinned (OpenSpec.upto fnExactBestNamesSpec)

/-- 'laws.FnExactWorstNames', WHERE WHAT IT READS IS OF BULK AT MOST 1048576: true; the input reads as it did. -/
def fnExactWorstNamesUptoRow : OpenClaim := { program := "ytbiiklkkfkipeaa", sum := "e8acfa2c4ddabb9e9fe4b72bfe4916d4580feb4c3f50507dea7b3ef7df58817f", func := "loop.example/g01176/laws.FnExactWorstNames", spec := "fnExactWorstNames", unfollowed := true, recurses := true, apart := false, narrowed := true }
def FnExactWorstNamesUptoSaid : Prop := fnExactWorstNamesUptoRow.holds Try.pinned (OpenSpec.upto fnExactWorstNamesSpec)

/-- 'laws.FnExactRoundMessages', WHERE WHAT IT READS IS OF BULK AT MOST 1048576: true; the input reads as it did. -/
def fnExactRoundMessagesUptoRow : OpenClaim := { program := "ytbiiklkkfkipeaa", sum := "e8acfa2c4ddabb9e9fe4b72bfe4916d4580feb4c3f50507dea7b3ef7df58817f", func := "loop.example/g01176/laws.FnExactRoundMessages", spec := "fnExactRoundMessages", unfollowed := true, recurses := true, apart := false, narrowed := true }
def FnExactRoundMessagesUptoSaid : Prop := fnExactRoundMessagesUptoRow.holds Try.pinned (OpenSpec.upto fnExactRoundMessagesSpec)

/-- 'laws.FnExactBothWays', WHERE WHAT IT READS IS OF BULK AT MOST 1048576: true; the input reads as it did. -/
def fnExactBothWaysUptoRow : OpenClaim := { program := "ytbiiklkkfkipeaa", sum := "e8acfa2c4ddabb9e9fe4b72bfe4916d4580feb4c3f50507dea7b3ef7df58817f", func := "loop.example/g01176/laws.FnExactBothWays", spec := "fnExactBothWays", unfollowed := true, recurses := true, apart := false, narrowed := true }
def FnExactBothWaysUptoSaid : Prop := fnExactBothWaysUptoRow.holds Try.pinned (OpenSpec.upto fnExactBothWaysSpec)

/-- 'laws.FnExactSurvivorsOf', WHERE WHAT IT READS IS OF BULK AT MOST 1048576: true; the input reads as it did. -/
def fnExactSurvivorsOfUptoRow : OpenClaim := { program := "ytbiiklkkfkipeaa", sum := "e8acfa2c4ddabb9e9fe4b72bfe4916d4580feb4c3f50507dea7b3ef7df58817f", func := "loop.example/g01176/laws.FnExactSurvivorsOf", spec := "fnExactSurvivorsOf", unfollowed := true, recurses := true, apart := false, narrowed := true }
def FnExactSurvivorsOfUptoSaid : Prop := fnExactSurvivorsOfUptoRow.holds Try.pinned (OpenSpec.upto fnExactSurvivorsOfSpec)

/-- 'laws.FnRoundsEnd', WHERE WHAT IT READS IS OF BULK AT MOST 1048576: true; the input reads as it did. -/
def fnRoundsEndUptoRow : OpenClaim := { program := "ytbiiklkkfkipeaa", sum := "e8acfa2c4ddabb9e9fe4b72bfe4916d4580feb4c3f50507dea7b3ef7df58817f", func := "loop.example/g01176/laws.FnRoundsEnd", spec := "fnRoundsEnd", unfollowed := true, recurses := true, apart := false, narrowed := true }
def FnRoundsEndUptoSaid : Prop := fnRoundsEndUptoRow.holds Try.pinned (OpenSpec.upto fnRoundsEndSpec)

/-- 'laws.FnElectionsEnd', WHERE WHAT IT READS IS OF BULK AT MOST 1048576: true; the input reads as it did. -/
def fnElectionsEndUptoRow : OpenClaim := { program := "ytbiiklkkfkipeaa", sum := "e8acfa2c4ddabb9e9fe4b72bfe4916d4580feb4c3f50507dea7b3ef7df58817f", func := "loop.example/g01176/laws.FnElectionsEnd", spec := "fnElectionsEnd", unfollowed := true, recurses := true, apart := false, narrowed := true }
def FnElectionsEndUptoSaid : Prop := fnElectionsEndUptoRow.holds Try.pinned (OpenSpec.upto fnElectionsEndSpec)

end Rows
end Go.Proofs.Ytbiiklkkfkipeaa
