/-
  No cell of these rows narrows 'for every input' (looked for: loops, veiled, ifaces, maps, wideKeys, modest, calm, conditions, laid).
  DERIVED. THE GIVEN ROWS OF THIS SEAT. 8 by the template 'for every input the law returns true; each argument reads behind the call as it read before'; 0 by the template 'total and deterministic' (their statements: YtkkgnjdepgmjlaaTotals.lean).
  GIVEN WITH THE SEED: the statements are not yours to turn. If you find one false, say at which input.
  Laid BY PROGRAM, IN A SANDBOX (cutbox-rows.mjs): the forced cells as the released guide's own fill.sh prints them over the translation d314c26da0386c61… (all of the seat's roots in one cut). By AI agents, Wed Nov 11 2026. No macro, syntax, notation, axiom, sorry.
-/
import Derived.Test.YtkkgnjdepgmjlaaChecked
import GoSem.Claim
import GoSem.ClaimJoined
import GoSem.ClaimMapViews
import Derived.JoinedTies
import Derived.KernelRfl
namespace Go.Proofs.Ytkkgnjdepgmjlaa
/- THE CELL 'sum', in the pinned program and in every row, IS THE sha256 OF THE DUMP (.gsa) THAT YtkkgnjdepgmjlaaProg.lean LOADS. Nothing in Lean hashes anything: it is a label: what it is worth is what the hold of that sum in a sandbox is worth. -/
noncomputable def Try.pinned : Pinned := { name := "ytkkgnjdepgmjlaa", sum := "d314c26da0386c619821a5ca168d14a6eeabb505303236049164dd08c916deb2", checked := Try.checked }
namespace Rows
def none {H : Type} : Left H := { results := [], args := [] }

/-- 'laws.FnExactOrderOfStarts': WHATEVER THE INPUT: true; the input reads as it did. -/
def fnExactOrderOfStartsSpec : ChangeSpec := { name := "fnExactOrderOfStarts", fn := fun _ => fun
  | [d1, d2] => { results := [.lit (.bool true)], args := [d1, d2] }
  | _ => none }
def fnExactOrderOfStartsRow : OpenClaim := { program := "ytkkgnjdepgmjlaa", sum := "d314c26da0386c619821a5ca168d14a6eeabb505303236049164dd08c916deb2", func := "loop.example/g01176/laws.FnExactOrderOfStarts", spec := "fnExactOrderOfStarts", unfollowed := true, recurses := true, apart := false }
def FnExactOrderOfStartsSaid : Prop := fnExactOrderOfStartsRow.holds Try.pinned (OpenSpec.ofChange fnExactOrderOfStartsSpec)

/-- ITS FALSE NEIGHBOUR: 'it returns false'. Refute it at one input. -/
def fnExactOrderOfStartsWrong : ChangeSpec := { name := "fnExactOrderOfStarts", fn := fun _ => fun
  | [d1, d2] => { results := [.lit (.bool false)], args := [d1, d2] }
  | _ => none }
def FnExactOrderOfStartsWrongFalsely : Prop := fnExactOrderOfStartsRow.holds Try.pinned (OpenSpec.ofChange fnExactOrderOfStartsWrong)

/-- 'laws.FnExactIsBusySchedule': WHATEVER THE INPUT: true; the input reads as it did. -/
def fnExactIsBusyScheduleSpec : ChangeSpec := { name := "fnExactIsBusySchedule", fn := fun _ => fun
  | [d1, d2] => { results := [.lit (.bool true)], args := [d1, d2] }
  | _ => none }
def fnExactIsBusyScheduleRow : OpenClaim := { program := "ytkkgnjdepgmjlaa", sum := "d314c26da0386c619821a5ca168d14a6eeabb505303236049164dd08c916deb2", func := "loop.example/g01176/laws.FnExactIsBusySchedule", spec := "fnExactIsBusySchedule", unfollowed := true, recurses := true, apart := false }
def FnExactIsBusyScheduleSaid : Prop := fnExactIsBusyScheduleRow.holds Try.pinned (OpenSpec.ofChange fnExactIsBusyScheduleSpec)

/-- ITS FALSE NEIGHBOUR: 'it returns false'. Refute it at one input. -/
def fnExactIsBusyScheduleWrong : ChangeSpec := { name := "fnExactIsBusySchedule", fn := fun _ => fun
  | [d1, d2] => { results := [.lit (.bool false)], args := [d1, d2] }
  | _ => none }
def FnExactIsBusyScheduleWrongFalsely : Prop := fnExactIsBusyScheduleRow.holds Try.pinned (OpenSpec.ofChange fnExactIsBusyScheduleWrong)

/-- 'laws.FnExactWaitsOf': WHATEVER THE INPUT: true; the input reads as it did. -/
def fnExactWaitsOfSpec : ChangeSpec := { name := "fnExactWaitsOf", fn := fun _ => fun
  | [d1, d2] => { results := [.lit (.bool true)], args := [d1, d2] }
  | _ => none }
def fnExactWaitsOfRow : OpenClaim := { program := "ytkkgnjdepgmjlaa", sum := "d314c26da0386c619821a5ca168d14a6eeabb505303236049164dd08c916deb2", func := "loop.example/g01176/laws.FnExactWaitsOf", spec := "fnExactWaitsOf", unfollowed := true, recurses := true, apart := false }
def FnExactWaitsOfSaid : Prop := fnExactWaitsOfRow.holds Try.pinned (OpenSpec.ofChange fnExactWaitsOfSpec)

/-- ITS FALSE NEIGHBOUR: 'it returns false'. Refute it at one input. -/
def fnExactWaitsOfWrong : ChangeSpec := { name := "fnExactWaitsOf", fn := fun _ => fun
  | [d1, d2] => { results := [.lit (.bool false)], args := [d1, d2] }
  | _ => none }
def FnExactWaitsOfWrongFalsely : Prop := fnExactWaitsOfRow.holds Try.pinned (OpenSpec.ofChange fnExactWaitsOfWrong)

/-- 'laws.FnExactAgedStarts': WHATEVER THE INPUT: true; the input reads as it did. -/
def fnExactAgedStartsSpec : ChangeSpec := { name := "fnExactAgedStarts", fn := fun _ => fun
  | [d1, d2] => { results := [.lit (.bool true)], args := [d1, d2] }
  | _ => none }
def fnExactAgedStartsRow : OpenClaim := { program := "ytkkgnjdepgmjlaa", sum := "d314c26da0386c619821a5ca168d14a6eeabb505303236049164dd08c916deb2", func := "loop.example/g01176/laws.FnExactAgedStarts", spec := "fnExactAgedStarts", unfollowed := true, recurses := true, apart := false }
def FnExactAgedStartsSaid : Prop := fnExactAgedStartsRow.holds Try.pinned (OpenSpec.ofChange fnExactAgedStartsSpec)

/-- ITS FALSE NEIGHBOUR: 'it returns false'. Refute it at one input. -/
def fnExactAgedStartsWrong : ChangeSpec := { name := "fnExactAgedStarts", fn := fun _ => fun
  | [d1, d2] => { results := [.lit (.bool false)], args := [d1, d2] }
  | _ => none }
def FnExactAgedStartsWrongFalsely : Prop := fnExactAgedStartsRow.holds Try.pinned (OpenSpec.ofChange fnExactAgedStartsWrong)

/-- 'laws.FnExactFirstStarts': WHATEVER THE INPUT: true; the input reads as it did. -/
def fnExactFirstStartsSpec : ChangeSpec := { name := "fnExactFirstStarts", fn := fun _ => fun
  | [d] => { results := [.lit (.bool true)], args := [d] }
  | _ => none }
def fnExactFirstStartsRow : OpenClaim := { program := "ytkkgnjdepgmjlaa", sum := "d314c26da0386c619821a5ca168d14a6eeabb505303236049164dd08c916deb2", func := "loop.example/g01176/laws.FnExactFirstStarts", spec := "fnExactFirstStarts", unfollowed := true, recurses := true, apart := false }
def FnExactFirstStartsSaid : Prop := fnExactFirstStartsRow.holds Try.pinned (OpenSpec.ofChange fnExactFirstStartsSpec)

/-- ITS FALSE NEIGHBOUR: 'it returns false'. Refute it at one input. -/
def fnExactFirstStartsWrong : ChangeSpec := { name := "fnExactFirstStarts", fn := fun _ => fun
  | [d] => { results := [.lit (.bool false)], args := [d] }
  | _ => none }
def FnExactFirstStartsWrongFalsely : Prop := fnExactFirstStartsRow.holds Try.pinned (OpenSpec.ofChange fnExactFirstStartsWrong)

/-- 'laws.FnExactStrictStarts': WHATEVER THE INPUT: true; the input reads as it did. -/
def fnExactStrictStartsSpec : ChangeSpec := { name := "fnExactStrictStarts", fn := fun _ => fun
  | [d] => { results := [.lit (.bool true)], args := [d] }
  | _ => none }
def fnExactStrictStartsRow : OpenClaim := { program := "ytkkgnjdepgmjlaa", sum := "d314c26da0386c619821a5ca168d14a6eeabb505303236049164dd08c916deb2", func := "loop.example/g01176/laws.FnExactStrictStarts", spec := "fnExactStrictStarts", unfollowed := true, recurses := true, apart := false }
def FnExactStrictStartsSaid : Prop := fnExactStrictStartsRow.holds Try.pinned (OpenSpec.ofChange fnExactStrictStartsSpec)

/-- ITS FALSE NEIGHBOUR: 'it returns false'. Refute it at one input. -/
def fnExactStrictStartsWrong : ChangeSpec := { name := "fnExactStrictStarts", fn := fun _ => fun
  | [d] => { results := [.lit (.bool false)], args := [d] }
  | _ => none }
def FnExactStrictStartsWrongFalsely : Prop := fnExactStrictStartsRow.holds Try.pinned (OpenSpec.ofChange fnExactStrictStartsWrong)

/-- 'laws.FnExactTurnStarts': WHATEVER THE INPUT: true; the input reads as it did. -/
def fnExactTurnStartsSpec : ChangeSpec := { name := "fnExactTurnStarts", fn := fun _ => fun
  | [d1, d2] => { results := [.lit (.bool true)], args := [d1, d2] }
  | _ => none }
def fnExactTurnStartsRow : OpenClaim := { program := "ytkkgnjdepgmjlaa", sum := "d314c26da0386c619821a5ca168d14a6eeabb505303236049164dd08c916deb2", func := "loop.example/g01176/laws.FnExactTurnStarts", spec := "fnExactTurnStarts", unfollowed := true, recurses := true, apart := false }
def FnExactTurnStartsSaid : Prop := fnExactTurnStartsRow.holds Try.pinned (OpenSpec.ofChange fnExactTurnStartsSpec)

/-- ITS FALSE NEIGHBOUR: 'it returns false'. Refute it at one input. -/
def fnExactTurnStartsWrong : ChangeSpec := { name := "fnExactTurnStarts", fn := fun _ => fun
  | [d1, d2] => { results := [.lit (.bool false)], args := [d1, d2] }
  | _ => none }
def FnExactTurnStartsWrongFalsely : Prop := fnExactTurnStartsRow.holds Try.pinned (OpenSpec.ofChange fnExactTurnStartsWrong)

/-- 'laws.FnExactDeficitStarts': WHATEVER THE INPUT: true; the input reads as it did. -/
def fnExactDeficitStartsSpec : ChangeSpec := { name := "fnExactDeficitStarts", fn := fun _ => fun
  | [d1, d2] => { results := [.lit (.bool true)], args := [d1, d2] }
  | _ => none }
def fnExactDeficitStartsRow : OpenClaim := { program := "ytkkgnjdepgmjlaa", sum := "d314c26da0386c619821a5ca168d14a6eeabb505303236049164dd08c916deb2", func := "loop.example/g01176/laws.FnExactDeficitStarts", spec := "fnExactDeficitStarts", unfollowed := true, recurses := true, apart := false }
def FnExactDeficitStartsSaid : Prop := fnExactDeficitStartsRow.holds Try.pinned (OpenSpec.ofChange fnExactDeficitStartsSpec)

/-- ITS FALSE NEIGHBOUR: 'it returns false'. Refute it at one input. -/
def fnExactDeficitStartsWrong : ChangeSpec := { name := "fnExactDeficitStarts", fn := fun _ => fun
  | [d1, d2] => { results := [.lit (.bool false)], args := [d1, d2] }
  | _ => none }
def FnExactDeficitStartsWrongFalsely : Prop := fnExactDeficitStartsRow.holds Try.pinned (OpenSpec.ofChange fnExactDeficitStartsWrong)

/- THE SECOND FORM. 'bulk': how many values and letters a reading holds, each counted each time it is reached (what is shared counts as often as it is met; a slice's spare places count too). A statement '..UptoSaid' is the law's where the arguments, and the package variables that the reading takes, are together of bulk at most 1048576: NARROWER than '..Said'. Prove '..Said' where nothing that the law and all that it calls make is longer than what came in: it says more and counts as full. Else prove '..UptoSaid'. A law counts once. -/
mutual
def uptoBulk {H : Type} : DataW H → Nat
  | .lit (.string bytes) => bytes.length + 1
  | .lit _ => 1
  | .nil => 1
  | .ptr d => uptoBulk d + 1
  | .slice elems spare => uptoBulkAll elems + uptoBulkAll spare + 1
  | .agg parts => uptoBulkAll parts + 1
  | .iface _ d => uptoBulk d + 1
  | .map entries => uptoBulkEntries entries + 1
  | .held _ => 1
def uptoBulkAll {H : Type} : List (DataW H) → Nat
  | [] => 0
  | d :: r => uptoBulk d + uptoBulkAll r
def uptoBulkEntries {H : Type} : List (Lit × DataW H) → Nat
  | [] => 0
  | x :: r => uptoBulkEntry x + uptoBulkEntries r
def uptoBulkEntry {H : Type} : Lit × DataW H → Nat
  | (.string bytes, d) => bytes.length + uptoBulk d + 1
  | (_, d) => uptoBulk d + 1
 end
def uptoSmall : (H : Type) → List (DataW H) → Bool := fun _ ds => decide (uptoBulkAll ds ≤ 1048576)
def OpenSpec.upto (s : _root_.Go.ChangeSpec) : _root_.Go.OpenSpec := { _root_.Go.OpenSpec.ofChange s with cond := some uptoSmall }

/-- 'laws.FnExactOrderOfStarts', WHERE WHAT IT READS IS OF BULK AT MOST 1048576: true; the input reads as it did. -/
def fnExactOrderOfStartsUptoRow : OpenClaim := { program := "ytkkgnjdepgmjlaa", sum := "d314c26da0386c619821a5ca168d14a6eeabb505303236049164dd08c916deb2", func := "loop.example/g01176/laws.FnExactOrderOfStarts", spec := "fnExactOrderOfStarts", unfollowed := true, recurses := true, apart := false, narrowed := true }
def FnExactOrderOfStartsUptoSaid : Prop := fnExactOrderOfStartsUptoRow.holds Try.pinned (OpenSpec.upto fnExactOrderOfStartsSpec)

/-- 'laws.FnExactIsBusySchedule', WHERE WHAT IT READS IS OF BULK AT MOST 1048576: true; the input reads as it did. -/
def fnExactIsBusyScheduleUptoRow : OpenClaim := { program := "ytkkgnjdepgmjlaa", sum := "d314c26da0386c619821a5ca168d14a6eeabb505303236049164dd08c916deb2", func := "loop.example/g01176/laws.FnExactIsBusySchedule", spec := "fnExactIsBusySchedule", unfollowed := true, recurses := true, apart := false, narrowed := true }
def FnExactIsBusyScheduleUptoSaid : Prop := fnExactIsBusyScheduleUptoRow.holds Try.pinned (OpenSpec.upto fnExactIsBusyScheduleSpec)

/-- 'laws.FnExactWaitsOf', WHERE WHAT IT READS IS OF BULK AT MOST 1048576: true; the input reads as it did. -/
def fnExactWaitsOfUptoRow : OpenClaim := { program := "ytkkgnjdepgmjlaa", sum := "d314c26da0386c619821a5ca168d14a6eeabb505303236049164dd08c916deb2", func := "loop.example/g01176/laws.FnExactWaitsOf", spec := "fnExactWaitsOf", unfollowed := true, recurses := true, apart := false, narrowed := true }
def FnExactWaitsOfUptoSaid : Prop := fnExactWaitsOfUptoRow.holds Try.pinned (OpenSpec.upto fnExactWaitsOfSpec)

/-- 'laws.FnExactAgedStarts', WHERE WHAT IT READS IS OF BULK AT MOST 1048576: true; the input reads as it did. -/
def fnExactAgedStartsUptoRow : OpenClaim := { program := "ytkkgnjdepgmjlaa", sum := "d314c26da0386c619821a5ca168d14a6eeabb505303236049164dd08c916deb2", func := "loop.example/g01176/laws.FnExactAgedStarts", spec := "fnExactAgedStarts", unfollowed := true, recurses := true, apart := false, narrowed := true }
def FnExactAgedStartsUptoSaid : Prop := fnExactAgedStartsUptoRow.holds Try.pinned (OpenSpec.upto fnExactAgedStartsSpec)

/-- 'laws.FnExactFirstStarts', WHERE WHAT IT READS IS OF BULK AT MOST 1048576: true; the input reads as it did. -/
def fnExactFirstStartsUptoRow : OpenClaim := { program := "ytkkgnjdepgmjlaa", sum := "d314c26da0386c619821a5ca168d14a6eeabb505303236049164dd08c916deb2", func := "loop.example/g01176/laws.FnExactFirstStarts", spec := "fnExactFirstStarts", unfollowed := true, recurses := true, apart := false, narrowed := true }
def FnExactFirstStartsUptoSaid : Prop := fnExactFirstStartsUptoRow.holds Try.pinned (OpenSpec.upto fnExactFirstStartsSpec)

/-- 'laws.FnExactStrictStarts', WHERE WHAT IT READS IS OF BULK AT MOST 1048576: true; the input reads as it did. -/
def fnExactStrictStartsUptoRow : OpenClaim := { program := "ytkkgnjdepgmjlaa", sum := "d314c26da0386c619821a5ca168d14a6eeabb505303236049164dd08c916deb2", func := "loop.example/g01176/laws.FnExactStrictStarts", spec := "fnExactStrictStarts", unfollowed := true, recurses := true, apart := false, narrowed := true }
def FnExactStrictStartsUptoSaid : Prop := fnExactStrictStartsUptoRow.holds Try.pinned (OpenSpec.upto fnExactStrictStartsSpec)

/-- 'laws.FnExactTurnStarts', WHERE WHAT IT READS IS OF BULK AT MOST 1048576: true; the input reads as it did. -/
def fnExactTurnStartsUptoRow : OpenClaim := { program := "ytkkgnjdepgmjlaa", sum := "d314c26da0386c619821a5ca168d14a6eeabb505303236049164dd08c916deb2", func := "loop.example/g01176/laws.FnExactTurnStarts", spec := "fnExactTurnStarts", unfollowed := true, recurses := true, apart := false, narrowed := true }
def FnExactTurnStartsUptoSaid : Prop := fnExactTurnStartsUptoRow.holds Try.pinned (OpenSpec.upto fnExactTurnStartsSpec)

/-- 'laws.FnExactDeficitStarts', WHERE WHAT IT READS IS OF BULK AT MOST 1048576: true; the input reads as it did. -/
def fnExactDeficitStartsUptoRow : OpenClaim := { program := "ytkkgnjdepgmjlaa", sum := "d314c26da0386c619821a5ca168d14a6eeabb505303236049164dd08c916deb2", func := "loop.example/g01176/laws.FnExactDeficitStarts", spec := "fnExactDeficitStarts", unfollowed := true, recurses := true, apart := false, narrowed := true }
def FnExactDeficitStartsUptoSaid : Prop := fnExactDeficitStartsUptoRow.holds Try.pinned (OpenSpec.upto fnExactDeficitStartsSpec)

end Rows
end Go.Proofs.Ytkkgnjdepgmjlaa
