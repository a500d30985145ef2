/-
  No cell of these rows narrows 'for every input' (looked for: loops, veiled, ifaces, maps, wideKeys, modest, calm, conditions, laid).
  DERIVED. THE GIVEN ROWS OF THIS SEAT. 7 by the template 'for every input the law returns true; each argument reads behind the call as it read before'; 0 by the template 'total and deterministic' (their statements: YtcamhmafkbbooaaTotals.lean).
  GIVEN WITH THE SEED: the statements are not yours to turn. If you find one false, say at which input.
  Laid BY PROGRAM, IN A SANDBOX (cutbox-rows.mjs): the forced cells as the released guide's own fill.sh prints them over the translation c610432c899b7ce1… (all of the seat's roots in one cut). By AI agents, Wed Nov 11 2026. No macro, syntax, notation, axiom, sorry.
-/
import Derived.Test.YtcamhmafkbbooaaChecked
import GoSem.Claim
import GoSem.ClaimJoined
import GoSem.ClaimMapViews
import Derived.JoinedTies
import Derived.KernelRfl
namespace Go.Proofs.Ytcamhmafkbbooaa
/- THE CELL 'sum', in the pinned program and in every row, IS THE sha256 OF THE DUMP (.gsa) THAT YtcamhmafkbbooaaProg.lean LOADS. Nothing in Lean hashes anything: it is a label: what it is worth is what the hold of that sum in a sandbox is worth. -/
noncomputable def Try.pinned : Pinned := { name := "ytcamhmafkbbooaa", sum := "c610432c899b7ce1833fcbeddf57c79c81ceea76a4da42ca47698e8e6c1afacc", checked := Try.checked }
namespace Rows
def none {H : Type} : Left H := { results := [], args := [] }

/-- 'laws.FnExactIsSlotRing': WHATEVER THE INPUT: true; the input reads as it did. -/
def fnExactIsSlotRingSpec : ChangeSpec := { name := "fnExactIsSlotRing", fn := fun _ => fun
  | [d] => { results := [.lit (.bool true)], args := [d] }
  | _ => none }
def fnExactIsSlotRingRow : OpenClaim := { program := "ytcamhmafkbbooaa", sum := "c610432c899b7ce1833fcbeddf57c79c81ceea76a4da42ca47698e8e6c1afacc", func := "loop.example/g01176/laws.FnExactIsSlotRing", spec := "fnExactIsSlotRing", apart := false }
def FnExactIsSlotRingSaid : Prop := fnExactIsSlotRingRow.holds Try.pinned (OpenSpec.ofChange fnExactIsSlotRingSpec)

/-- ITS FALSE NEIGHBOUR: 'it returns false'. Refute it at one input. -/
def fnExactIsSlotRingWrong : ChangeSpec := { name := "fnExactIsSlotRing", fn := fun _ => fun
  | [d] => { results := [.lit (.bool false)], args := [d] }
  | _ => none }
def FnExactIsSlotRingWrongFalsely : Prop := fnExactIsSlotRingRow.holds Try.pinned (OpenSpec.ofChange fnExactIsSlotRingWrong)

/-- 'laws.FnExactIsInsertRing': WHATEVER THE INPUT: true; the input reads as it did. -/
def fnExactIsInsertRingSpec : ChangeSpec := { name := "fnExactIsInsertRing", fn := fun _ => fun
  | [d] => { results := [.lit (.bool true)], args := [d] }
  | _ => none }
def fnExactIsInsertRingRow : OpenClaim := { program := "ytcamhmafkbbooaa", sum := "c610432c899b7ce1833fcbeddf57c79c81ceea76a4da42ca47698e8e6c1afacc", func := "loop.example/g01176/laws.FnExactIsInsertRing", spec := "fnExactIsInsertRing", apart := false }
def FnExactIsInsertRingSaid : Prop := fnExactIsInsertRingRow.holds Try.pinned (OpenSpec.ofChange fnExactIsInsertRingSpec)

/-- ITS FALSE NEIGHBOUR: 'it returns false'. Refute it at one input. -/
def fnExactIsInsertRingWrong : ChangeSpec := { name := "fnExactIsInsertRing", fn := fun _ => fun
  | [d] => { results := [.lit (.bool false)], args := [d] }
  | _ => none }
def FnExactIsInsertRingWrongFalsely : Prop := fnExactIsInsertRingRow.holds Try.pinned (OpenSpec.ofChange fnExactIsInsertRingWrong)

/-- 'laws.FnExactLevelsOf': WHATEVER THE INPUT: true; the input reads as it did. -/
def fnExactLevelsOfSpec : ChangeSpec := { name := "fnExactLevelsOf", fn := fun _ => fun
  | [d1, d2] => { results := [.lit (.bool true)], args := [d1, d2] }
  | _ => none }
def fnExactLevelsOfRow : OpenClaim := { program := "ytcamhmafkbbooaa", sum := "c610432c899b7ce1833fcbeddf57c79c81ceea76a4da42ca47698e8e6c1afacc", func := "loop.example/g01176/laws.FnExactLevelsOf", spec := "fnExactLevelsOf", unfollowed := true, recurses := true, apart := false }
def FnExactLevelsOfSaid : Prop := fnExactLevelsOfRow.holds Try.pinned (OpenSpec.ofChange fnExactLevelsOfSpec)

/-- ITS FALSE NEIGHBOUR: 'it returns false'. Refute it at one input. -/
def fnExactLevelsOfWrong : ChangeSpec := { name := "fnExactLevelsOf", fn := fun _ => fun
  | [d1, d2] => { results := [.lit (.bool false)], args := [d1, d2] }
  | _ => none }
def FnExactLevelsOfWrongFalsely : Prop := fnExactLevelsOfRow.holds Try.pinned (OpenSpec.ofChange fnExactLevelsOfWrong)

/-- 'laws.FnExactLeakOf': WHATEVER THE INPUT: true; the input reads as it did. -/
def fnExactLeakOfSpec : ChangeSpec := { name := "fnExactLeakOf", fn := fun _ => fun
  | [d1, d2] => { results := [.lit (.bool true)], args := [d1, d2] }
  | _ => none }
def fnExactLeakOfRow : OpenClaim := { program := "ytcamhmafkbbooaa", sum := "c610432c899b7ce1833fcbeddf57c79c81ceea76a4da42ca47698e8e6c1afacc", func := "loop.example/g01176/laws.FnExactLeakOf", spec := "fnExactLeakOf", unfollowed := true, recurses := true, apart := false }
def FnExactLeakOfSaid : Prop := fnExactLeakOfRow.holds Try.pinned (OpenSpec.ofChange fnExactLeakOfSpec)

/-- ITS FALSE NEIGHBOUR: 'it returns false'. Refute it at one input. -/
def fnExactLeakOfWrong : ChangeSpec := { name := "fnExactLeakOf", fn := fun _ => fun
  | [d1, d2] => { results := [.lit (.bool false)], args := [d1, d2] }
  | _ => none }
def FnExactLeakOfWrongFalsely : Prop := fnExactLeakOfRow.holds Try.pinned (OpenSpec.ofChange fnExactLeakOfWrong)

/-- 'laws.FnExactBacklogOfShape': WHATEVER THE INPUT: true; the input reads as it did. -/
def fnExactBacklogOfShapeSpec : ChangeSpec := { name := "fnExactBacklogOfShape", fn := fun _ => fun
  | [d1, d2] => { results := [.lit (.bool true)], args := [d1, d2] }
  | _ => none }
def fnExactBacklogOfShapeRow : OpenClaim := { program := "ytcamhmafkbbooaa", sum := "c610432c899b7ce1833fcbeddf57c79c81ceea76a4da42ca47698e8e6c1afacc", func := "loop.example/g01176/laws.FnExactBacklogOfShape", spec := "fnExactBacklogOfShape", unfollowed := true, recurses := true, apart := false }
def FnExactBacklogOfShapeSaid : Prop := fnExactBacklogOfShapeRow.holds Try.pinned (OpenSpec.ofChange fnExactBacklogOfShapeSpec)

/-- ITS FALSE NEIGHBOUR: 'it returns false'. Refute it at one input. -/
def fnExactBacklogOfShapeWrong : ChangeSpec := { name := "fnExactBacklogOfShape", fn := fun _ => fun
  | [d1, d2] => { results := [.lit (.bool false)], args := [d1, d2] }
  | _ => none }
def FnExactBacklogOfShapeWrongFalsely : Prop := fnExactBacklogOfShapeRow.holds Try.pinned (OpenSpec.ofChange fnExactBacklogOfShapeWrong)

/-- 'laws.FnExactShapeOf': WHATEVER THE INPUT: true; the input reads as it did. -/
def fnExactShapeOfSpec : ChangeSpec := { name := "fnExactShapeOf", fn := fun _ => fun
  | [d1, d2] => { results := [.lit (.bool true)], args := [d1, d2] }
  | _ => none }
def fnExactShapeOfRow : OpenClaim := { program := "ytcamhmafkbbooaa", sum := "c610432c899b7ce1833fcbeddf57c79c81ceea76a4da42ca47698e8e6c1afacc", func := "loop.example/g01176/laws.FnExactShapeOf", spec := "fnExactShapeOf", unfollowed := true, recurses := true, apart := false }
def FnExactShapeOfSaid : Prop := fnExactShapeOfRow.holds Try.pinned (OpenSpec.ofChange fnExactShapeOfSpec)

/-- ITS FALSE NEIGHBOUR: 'it returns false'. Refute it at one input. -/
def fnExactShapeOfWrong : ChangeSpec := { name := "fnExactShapeOf", fn := fun _ => fun
  | [d1, d2] => { results := [.lit (.bool false)], args := [d1, d2] }
  | _ => none }
def FnExactShapeOfWrongFalsely : Prop := fnExactShapeOfRow.holds Try.pinned (OpenSpec.ofChange fnExactShapeOfWrong)

/-- 'laws.FnExactDelayOfShape': WHATEVER THE INPUT: true; the input reads as it did. -/
def fnExactDelayOfShapeSpec : ChangeSpec := { name := "fnExactDelayOfShape", fn := fun _ => fun
  | [d1, d2] => { results := [.lit (.bool true)], args := [d1, d2] }
  | _ => none }
def fnExactDelayOfShapeRow : OpenClaim := { program := "ytcamhmafkbbooaa", sum := "c610432c899b7ce1833fcbeddf57c79c81ceea76a4da42ca47698e8e6c1afacc", func := "loop.example/g01176/laws.FnExactDelayOfShape", spec := "fnExactDelayOfShape", unfollowed := true, recurses := true, apart := false }
def FnExactDelayOfShapeSaid : Prop := fnExactDelayOfShapeRow.holds Try.pinned (OpenSpec.ofChange fnExactDelayOfShapeSpec)

/-- ITS FALSE NEIGHBOUR: 'it returns false'. Refute it at one input. -/
def fnExactDelayOfShapeWrong : ChangeSpec := { name := "fnExactDelayOfShape", fn := fun _ => fun
  | [d1, d2] => { results := [.lit (.bool false)], args := [d1, d2] }
  | _ => none }
def FnExactDelayOfShapeWrongFalsely : Prop := fnExactDelayOfShapeRow.holds Try.pinned (OpenSpec.ofChange fnExactDelayOfShapeWrong)

/- THE SECOND FORM. 'bulk': how many values and letters a reading holds, each counted each time it is reached (what is shared counts as often as it is met; a slice's spare places count too). A statement '..UptoSaid' is the law's where the arguments, and the package variables that the reading takes, are together of bulk at most 1048576: NARROWER than '..Said'. Prove '..Said' where nothing that the law and all that it calls make is longer than what came in: it says more and counts as full. Else prove '..UptoSaid'. A law counts once. -/
mutual
def uptoBulk {H : Type} : DataW H → Nat
  | .lit (.string bytes) => bytes.length + 1
  | .lit _ => 1
  | .nil => 1
  | .ptr d => uptoBulk d + 1
  | .slice elems spare => uptoBulkAll elems + uptoBulkAll spare + 1
  | .agg parts => uptoBulkAll parts + 1
  | .iface _ d => uptoBulk d + 1
  | .map entries => uptoBulkEntries entries + 1
  | .held _ => 1
def uptoBulkAll {H : Type} : List (DataW H) → Nat
  | [] => 0
  | d :: r => uptoBulk d + uptoBulkAll r
def uptoBulkEntries {H : Type} : List (Lit × DataW H) → Nat
  | [] => 0
  | x :: r => uptoBulkEntry x + uptoBulkEntries r
def uptoBulkEntry {H : Type} : Lit × DataW H → Nat
  | (.string bytes, d) => bytes.length + uptoBulk d + 1
  | (_, d) => uptoBulk d + 1
 end
def uptoSmall : (H : Type) → List (DataW H) → Bool := fun _ ds => decide (uptoBulkAll ds ≤ 1048576)
def OpenSpec.upto (s : _root_.Go.ChangeSpec) : _root_.Go.OpenSpec := { _root_.Go.OpenSpec.ofChange s with cond := some uptoSmall }

/-- 'laws.FnExactIsSlotRing', WHERE WHAT IT READS IS OF BULK AT MOST 1048576: true; the input reads as it did. -/
def fnExactIsSlotRingUptoRow : OpenClaim := { program := "ytcamhmafkbbooaa", sum := "c610432c899b7ce1833fcbeddf57c79c81ceea76a4da42ca47698e8e6c1afacc", func := "loop.example/g01176/laws.FnExactIsSlotRing", spec := "fnExactIsSlotRing", apart := false, narrowed := true }
def FnExactIsSlotRingUptoSaid : Prop := fnExactIsSlotRingUptoRow.holds Try.pinned (OpenSpec.upto fnExactIsSlotRingSpec)

/-- 'laws.FnExactIsInsertRing', WHERE WHAT IT READS IS OF BULK AT MOST 1048576: true; the input reads as it did. -/
def fnExactIsInsertRingUptoRow : OpenClaim := { program := "ytcamhmafkbbooaa", sum := "c610432c899b7ce1833fcbeddf57c79c81ceea76a4da42ca47698e8e6c1afacc", func := "loop.example/g01176/laws.FnExactIsInsertRing", spec := "fnExactIsInsertRing", apart := false, narrowed := true }
def FnExactIsInsertRingUptoSaid : Prop := fnExactIsInsertRingUptoRow.holds Try.pinned (OpenSpec.upto fnExactIsInsertRingSpec)

/-- 'laws.FnExactLevelsOf', WHERE WHAT IT READS IS OF BULK AT MOST 1048576: true; the input reads as it did. -/
def fnExactLevelsOfUptoRow : OpenClaim := { program := "ytcamhmafkbbooaa", sum := "c610432c899b7ce1833fcbeddf57c79c81ceea76a4da42ca47698e8e6c1afacc", func := "loop.example/g01176/laws.FnExactLevelsOf", spec := "fnExactLevelsOf", unfollowed := true, recurses := true, apart := false, narrowed := true }
def FnExactLevelsOfUptoSaid : Prop := fnExactLevelsOfUptoRow.holds Try.pinned (OpenSpec.upto fnExactLevelsOfSpec)

/-- 'laws.FnExactLeakOf', WHERE WHAT IT READS IS OF BULK AT MOST 1048576: true; the input reads as it did. -/
def fnExactLeakOfUptoRow : OpenClaim := { program := "ytcamhmafkbbooaa", sum := "c610432c899b7ce1833fcbeddf57c79c81ceea76a4da42ca47698e8e6c1afacc", func := "loop.example/g01176/laws.FnExactLeakOf", spec := "fnExactLeakOf", unfollowed := true, recurses := true, apart := false, narrowed := true }
def FnExactLeakOfUptoSaid : Prop := fnExactLeakOfUptoRow.holds Try.pinned (OpenSpec.upto fnExactLeakOfSpec)

/-- 'laws.FnExactBacklogOfShape', WHERE WHAT IT READS IS OF BULK AT MOST 1048576: true; the input reads as it did. -/
def fnExactBacklogOfShapeUptoRow : OpenClaim := { program := "ytcamhmafkbbooaa", sum := "c610432c899b7ce1833fcbeddf57c79c81ceea76a4da42ca47698e8e6c1afacc", func := "loop.example/g01176/laws.FnExactBacklogOfShape", spec := "fnExactBacklogOfShape", unfollowed := true, recurses := true, apart := false, narrowed := true }
def FnExactBacklogOfShapeUptoSaid : Prop := fnExactBacklogOfShapeUptoRow.holds Try.pinned (OpenSpec.upto fnExactBacklogOfShapeSpec)

/-- 'laws.FnExactShapeOf', WHERE WHAT IT READS IS OF BULK AT MOST 1048576: true; the input reads as it did. -/
def fnExactShapeOfUptoRow : OpenClaim := { program := "ytcamhmafkbbooaa", sum := "c610432c899b7ce1833fcbeddf57c79c81ceea76a4da42ca47698e8e6c1afacc", func := "loop.example/g01176/laws.FnExactShapeOf", spec := "fnExactShapeOf", unfollowed := true, recurses := true, apart := false, narrowed := true }
def FnExactShapeOfUptoSaid : Prop := fnExactShapeOfUptoRow.holds Try.pinned (OpenSpec.upto fnExactShapeOfSpec)

/-- 'laws.FnExactDelayOfShape', WHERE WHAT IT READS IS OF BULK AT MOST 1048576: true; the input reads as it did. -/
def fnExactDelayOfShapeUptoRow : OpenClaim := { program := "ytcamhmafkbbooaa", sum := "c610432c899b7ce1833fcbeddf57c79c81ceea76a4da42ca47698e8e6c1afacc", func := "loop.example/g01176/laws.FnExactDelayOfShape", spec := "fnExactDelayOfShape", unfollowed := true, recurses := true, apart := false, narrowed := true }
def FnExactDelayOfShapeUptoSaid : Prop := fnExactDelayOfShapeUptoRow.holds Try.pinned (OpenSpec.upto fnExactDelayOfShapeSpec)

end Rows
end Go.Proofs.Ytcamhmafkbbooaa
