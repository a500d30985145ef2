/-
  No cell of these rows narrows 'for every input' (looked for: loops, veiled, ifaces, maps, wideKeys, modest, calm, conditions, laid).
  DERIVED. THE GIVEN ROWS OF THIS SEAT. 11 by the template 'for every input the law returns true; each argument reads behind the call as it read before'; 0 by the template 'total and deterministic' (their statements: YtgkbeejkbhhjkaaTotals.lean).
  GIVEN WITH THE SEED: the statements are not yours to turn. If you find one false, say at which input.
  Laid BY PROGRAM, IN A SANDBOX (cutbox-rows.mjs): the forced cells as the released guide's own fill.sh prints them over the translation 393e3c11c18bc254… (all of the seat's roots in one cut). By AI agents, Wed Nov 11 2026. No macro, syntax, notation, axiom, sorry.
-/
import Derived.Test.YtgkbeejkbhhjkaaChecked
import GoSem.Claim
import GoSem.ClaimJoined
import GoSem.ClaimMapViews
import Derived.JoinedTies
import Derived.KernelRfl
namespace Go.Proofs.Ytgkbeejkbhhjkaa
/- THE CELL 'sum', in the pinned program and in every row, IS THE sha256 OF THE DUMP (.gsa) THAT YtgkbeejkbhhjkaaProg.lean LOADS. Nothing in Lean hashes anything: it is a label: what it is worth is what the hold of that sum in a sandbox is worth. -/
noncomputable def Try.pinned : Pinned := { name := "ytgkbeejkbhhjkaa", sum := "393e3c11c18bc2543819a3df7a1263ecfe64ac09268b5920b3337b101ef91580", checked := Try.checked }
namespace Rows
def none {H : Type} : Left H := { results := [], args := [] }

/-- 'laws.FnExactHopsOfMessage': WHATEVER THE INPUT: true; the input reads as it did. -/
def fnExactHopsOfMessageSpec : ChangeSpec := { name := "fnExactHopsOfMessage", fn := fun _ => fun
  | [d1, d2] => { results := [.lit (.bool true)], args := [d1, d2] }
  | _ => none }
def fnExactHopsOfMessageRow : OpenClaim := { program := "ytgkbeejkbhhjkaa", sum := "393e3c11c18bc2543819a3df7a1263ecfe64ac09268b5920b3337b101ef91580", func := "loop.example/g01176/laws.FnExactHopsOfMessage", spec := "fnExactHopsOfMessage", unfollowed := true, recurses := true, apart := false }
def FnExactHopsOfMessageSaid : Prop := fnExactHopsOfMessageRow.holds Try.pinned (OpenSpec.ofChange fnExactHopsOfMessageSpec)

/-- ITS FALSE NEIGHBOUR: 'it returns false'. Refute it at one input. -/
def fnExactHopsOfMessageWrong : ChangeSpec := { name := "fnExactHopsOfMessage", fn := fun _ => fun
  | [d1, d2] => { results := [.lit (.bool false)], args := [d1, d2] }
  | _ => none }
def FnExactHopsOfMessageWrongFalsely : Prop := fnExactHopsOfMessageRow.holds Try.pinned (OpenSpec.ofChange fnExactHopsOfMessageWrong)

/-- 'laws.FnExactAreMessages': WHATEVER THE INPUT: true; the input reads as it did. -/
def fnExactAreMessagesSpec : ChangeSpec := { name := "fnExactAreMessages", fn := fun _ => fun
  | [d1, d2] => { results := [.lit (.bool true)], args := [d1, d2] }
  | _ => none }
def fnExactAreMessagesRow : OpenClaim := { program := "ytgkbeejkbhhjkaa", sum := "393e3c11c18bc2543819a3df7a1263ecfe64ac09268b5920b3337b101ef91580", func := "loop.example/g01176/laws.FnExactAreMessages", spec := "fnExactAreMessages", unfollowed := true, recurses := true, apart := false }
def FnExactAreMessagesSaid : Prop := fnExactAreMessagesRow.holds Try.pinned (OpenSpec.ofChange fnExactAreMessagesSpec)

/-- ITS FALSE NEIGHBOUR: 'it returns false'. Refute it at one input. -/
def fnExactAreMessagesWrong : ChangeSpec := { name := "fnExactAreMessages", fn := fun _ => fun
  | [d1, d2] => { results := [.lit (.bool false)], args := [d1, d2] }
  | _ => none }
def FnExactAreMessagesWrongFalsely : Prop := fnExactAreMessagesRow.holds Try.pinned (OpenSpec.ofChange fnExactAreMessagesWrong)

/-- 'laws.FnExactSlotBound': WHATEVER THE INPUT: true; the input reads as it did. -/
def fnExactSlotBoundSpec : ChangeSpec := { name := "fnExactSlotBound", fn := fun _ => fun
  | [d1, d2] => { results := [.lit (.bool true)], args := [d1, d2] }
  | _ => none }
def fnExactSlotBoundRow : OpenClaim := { program := "ytgkbeejkbhhjkaa", sum := "393e3c11c18bc2543819a3df7a1263ecfe64ac09268b5920b3337b101ef91580", func := "loop.example/g01176/laws.FnExactSlotBound", spec := "fnExactSlotBound", unfollowed := true, recurses := true, apart := false }
def FnExactSlotBoundSaid : Prop := fnExactSlotBoundRow.holds Try.pinned (OpenSpec.ofChange fnExactSlotBoundSpec)

/-- ITS FALSE NEIGHBOUR: 'it returns false'. Refute it at one input. -/
def fnExactSlotBoundWrong : ChangeSpec := { name := "fnExactSlotBound", fn := fun _ => fun
  | [d1, d2] => { results := [.lit (.bool false)], args := [d1, d2] }
  | _ => none }
def FnExactSlotBoundWrongFalsely : Prop := fnExactSlotBoundRow.holds Try.pinned (OpenSpec.ofChange fnExactSlotBoundWrong)

/-- 'laws.FnExactTurnMessages': WHATEVER THE INPUT: true; the input reads as it did. -/
def fnExactTurnMessagesSpec : ChangeSpec := { name := "fnExactTurnMessages", fn := fun _ => fun
  | [d1, d2, d3] => { results := [.lit (.bool true)], args := [d1, d2, d3] }
  | _ => none }
def fnExactTurnMessagesRow : OpenClaim := { program := "ytgkbeejkbhhjkaa", sum := "393e3c11c18bc2543819a3df7a1263ecfe64ac09268b5920b3337b101ef91580", func := "loop.example/g01176/laws.FnExactTurnMessages", spec := "fnExactTurnMessages", unfollowed := true, recurses := true, apart := false }
def FnExactTurnMessagesSaid : Prop := fnExactTurnMessagesRow.holds Try.pinned (OpenSpec.ofChange fnExactTurnMessagesSpec)

/-- ITS FALSE NEIGHBOUR: 'it returns false'. Refute it at one input. -/
def fnExactTurnMessagesWrong : ChangeSpec := { name := "fnExactTurnMessages", fn := fun _ => fun
  | [d1, d2, d3] => { results := [.lit (.bool false)], args := [d1, d2, d3] }
  | _ => none }
def FnExactTurnMessagesWrongFalsely : Prop := fnExactTurnMessagesRow.holds Try.pinned (OpenSpec.ofChange fnExactTurnMessagesWrong)

/-- 'laws.FnExactLoadOfLinks': WHATEVER THE INPUT: true; the input reads as it did. -/
def fnExactLoadOfLinksSpec : ChangeSpec := { name := "fnExactLoadOfLinks", fn := fun _ => fun
  | [d1, d2] => { results := [.lit (.bool true)], args := [d1, d2] }
  | _ => none }
def fnExactLoadOfLinksRow : OpenClaim := { program := "ytgkbeejkbhhjkaa", sum := "393e3c11c18bc2543819a3df7a1263ecfe64ac09268b5920b3337b101ef91580", func := "loop.example/g01176/laws.FnExactLoadOfLinks", spec := "fnExactLoadOfLinks", unfollowed := true, recurses := true, apart := false }
def FnExactLoadOfLinksSaid : Prop := fnExactLoadOfLinksRow.holds Try.pinned (OpenSpec.ofChange fnExactLoadOfLinksSpec)

/-- ITS FALSE NEIGHBOUR: 'it returns false'. Refute it at one input. -/
def fnExactLoadOfLinksWrong : ChangeSpec := { name := "fnExactLoadOfLinks", fn := fun _ => fun
  | [d1, d2] => { results := [.lit (.bool false)], args := [d1, d2] }
  | _ => none }
def FnExactLoadOfLinksWrongFalsely : Prop := fnExactLoadOfLinksRow.holds Try.pinned (OpenSpec.ofChange fnExactLoadOfLinksWrong)

/-- 'laws.FnExactFullTicks': WHATEVER THE INPUT: true; the input reads as it did. -/
def fnExactFullTicksSpec : ChangeSpec := { name := "fnExactFullTicks", fn := fun _ => fun
  | [d1, d2, d3] => { results := [.lit (.bool true)], args := [d1, d2, d3] }
  | _ => none }
def fnExactFullTicksRow : OpenClaim := { program := "ytgkbeejkbhhjkaa", sum := "393e3c11c18bc2543819a3df7a1263ecfe64ac09268b5920b3337b101ef91580", func := "loop.example/g01176/laws.FnExactFullTicks", spec := "fnExactFullTicks", unfollowed := true, recurses := true, apart := false }
def FnExactFullTicksSaid : Prop := fnExactFullTicksRow.holds Try.pinned (OpenSpec.ofChange fnExactFullTicksSpec)

/-- ITS FALSE NEIGHBOUR: 'it returns false'. Refute it at one input. -/
def fnExactFullTicksWrong : ChangeSpec := { name := "fnExactFullTicks", fn := fun _ => fun
  | [d1, d2, d3] => { results := [.lit (.bool false)], args := [d1, d2, d3] }
  | _ => none }
def FnExactFullTicksWrongFalsely : Prop := fnExactFullTicksRow.holds Try.pinned (OpenSpec.ofChange fnExactFullTicksWrong)

/-- 'laws.FnExactSlotsAt': WHATEVER THE INPUT: true; the input reads as it did. -/
def fnExactSlotsAtSpec : ChangeSpec := { name := "fnExactSlotsAt", fn := fun _ => fun
  | [d1, d2, d3] => { results := [.lit (.bool true)], args := [d1, d2, d3] }
  | _ => none }
def fnExactSlotsAtRow : OpenClaim := { program := "ytgkbeejkbhhjkaa", sum := "393e3c11c18bc2543819a3df7a1263ecfe64ac09268b5920b3337b101ef91580", func := "loop.example/g01176/laws.FnExactSlotsAt", spec := "fnExactSlotsAt", unfollowed := true, recurses := true, apart := false }
def FnExactSlotsAtSaid : Prop := fnExactSlotsAtRow.holds Try.pinned (OpenSpec.ofChange fnExactSlotsAtSpec)

/-- ITS FALSE NEIGHBOUR: 'it returns false'. Refute it at one input. -/
def fnExactSlotsAtWrong : ChangeSpec := { name := "fnExactSlotsAt", fn := fun _ => fun
  | [d1, d2, d3] => { results := [.lit (.bool false)], args := [d1, d2, d3] }
  | _ => none }
def FnExactSlotsAtWrongFalsely : Prop := fnExactSlotsAtRow.holds Try.pinned (OpenSpec.ofChange fnExactSlotsAtWrong)

/-- 'laws.FnExactLastRead': WHATEVER THE INPUT: true; the input reads as it did. -/
def fnExactLastReadSpec : ChangeSpec := { name := "fnExactLastRead", fn := fun _ => fun
  | [d1, d2] => { results := [.lit (.bool true)], args := [d1, d2] }
  | _ => none }
def fnExactLastReadRow : OpenClaim := { program := "ytgkbeejkbhhjkaa", sum := "393e3c11c18bc2543819a3df7a1263ecfe64ac09268b5920b3337b101ef91580", func := "loop.example/g01176/laws.FnExactLastRead", spec := "fnExactLastRead", unfollowed := true, recurses := true, apart := false }
def FnExactLastReadSaid : Prop := fnExactLastReadRow.holds Try.pinned (OpenSpec.ofChange fnExactLastReadSpec)

/-- ITS FALSE NEIGHBOUR: 'it returns false'. Refute it at one input. -/
def fnExactLastReadWrong : ChangeSpec := { name := "fnExactLastRead", fn := fun _ => fun
  | [d1, d2] => { results := [.lit (.bool false)], args := [d1, d2] }
  | _ => none }
def FnExactLastReadWrongFalsely : Prop := fnExactLastReadRow.holds Try.pinned (OpenSpec.ofChange fnExactLastReadWrong)

/-- 'laws.FnExactFilledAt': WHATEVER THE INPUT: true; the input reads as it did. -/
def fnExactFilledAtSpec : ChangeSpec := { name := "fnExactFilledAt", fn := fun _ => fun
  | [d1, d2] => { results := [.lit (.bool true)], args := [d1, d2] }
  | _ => none }
def fnExactFilledAtRow : OpenClaim := { program := "ytgkbeejkbhhjkaa", sum := "393e3c11c18bc2543819a3df7a1263ecfe64ac09268b5920b3337b101ef91580", func := "loop.example/g01176/laws.FnExactFilledAt", spec := "fnExactFilledAt", unfollowed := true, recurses := true, apart := false }
def FnExactFilledAtSaid : Prop := fnExactFilledAtRow.holds Try.pinned (OpenSpec.ofChange fnExactFilledAtSpec)

/-- ITS FALSE NEIGHBOUR: 'it returns false'. Refute it at one input. -/
def fnExactFilledAtWrong : ChangeSpec := { name := "fnExactFilledAt", fn := fun _ => fun
  | [d1, d2] => { results := [.lit (.bool false)], args := [d1, d2] }
  | _ => none }
def FnExactFilledAtWrongFalsely : Prop := fnExactFilledAtRow.holds Try.pinned (OpenSpec.ofChange fnExactFilledAtWrong)

/-- 'laws.FnExactReadAt': WHATEVER THE INPUT: true; the input reads as it did. -/
def fnExactReadAtSpec : ChangeSpec := { name := "fnExactReadAt", fn := fun _ => fun
  | [d1, d2] => { results := [.lit (.bool true)], args := [d1, d2] }
  | _ => none }
def fnExactReadAtRow : OpenClaim := { program := "ytgkbeejkbhhjkaa", sum := "393e3c11c18bc2543819a3df7a1263ecfe64ac09268b5920b3337b101ef91580", func := "loop.example/g01176/laws.FnExactReadAt", spec := "fnExactReadAt", unfollowed := true, recurses := true, apart := false }
def FnExactReadAtSaid : Prop := fnExactReadAtRow.holds Try.pinned (OpenSpec.ofChange fnExactReadAtSpec)

/-- ITS FALSE NEIGHBOUR: 'it returns false'. Refute it at one input. -/
def fnExactReadAtWrong : ChangeSpec := { name := "fnExactReadAt", fn := fun _ => fun
  | [d1, d2] => { results := [.lit (.bool false)], args := [d1, d2] }
  | _ => none }
def FnExactReadAtWrongFalsely : Prop := fnExactReadAtRow.holds Try.pinned (OpenSpec.ofChange fnExactReadAtWrong)

/-- 'laws.FnExactQueueAt': WHATEVER THE INPUT: true; the input reads as it did. -/
def fnExactQueueAtSpec : ChangeSpec := { name := "fnExactQueueAt", fn := fun _ => fun
  | [d1, d2, d3, d4] => { results := [.lit (.bool true)], args := [d1, d2, d3, d4] }
  | _ => none }
def fnExactQueueAtRow : OpenClaim := { program := "ytgkbeejkbhhjkaa", sum := "393e3c11c18bc2543819a3df7a1263ecfe64ac09268b5920b3337b101ef91580", func := "loop.example/g01176/laws.FnExactQueueAt", spec := "fnExactQueueAt", unfollowed := true, recurses := true, apart := false }
def FnExactQueueAtSaid : Prop := fnExactQueueAtRow.holds Try.pinned (OpenSpec.ofChange fnExactQueueAtSpec)

/-- ITS FALSE NEIGHBOUR: 'it returns false'. Refute it at one input. -/
def fnExactQueueAtWrong : ChangeSpec := { name := "fnExactQueueAt", fn := fun _ => fun
  | [d1, d2, d3, d4] => { results := [.lit (.bool false)], args := [d1, d2, d3, d4] }
  | _ => none }
def FnExactQueueAtWrongFalsely : Prop := fnExactQueueAtRow.holds Try.pinned (OpenSpec.ofChange fnExactQueueAtWrong)

/- THE SECOND FORM. 'bulk': how many values and letters a reading holds, each counted each time it is reached (what is shared counts as often as it is met; a slice's spare places count too). A statement '..UptoSaid' is the law's where the arguments, and the package variables that the reading takes, are together of bulk at most 1048576: NARROWER than '..Said'. Prove '..Said' where nothing that the law and all that it calls make is longer than what came in: it says more and counts as full. Else prove '..UptoSaid'. A law counts once. -/
mutual
def uptoBulk {H : Type} : DataW H → Nat
  | .lit (.string bytes) => bytes.length + 1
  | .lit _ => 1
  | .nil => 1
  | .ptr d => uptoBulk d + 1
  | .slice elems spare => uptoBulkAll elems + uptoBulkAll spare + 1
  | .agg parts => uptoBulkAll parts + 1
  | .iface _ d => uptoBulk d + 1
  | .map entries => uptoBulkEntries entries + 1
  | .held _ => 1
def uptoBulkAll {H : Type} : List (DataW H) → Nat
  | [] => 0
  | d :: r => uptoBulk d + uptoBulkAll r
def uptoBulkEntries {H : Type} : List (Lit × DataW H) → Nat
  | [] => 0
  | x :: r => uptoBulkEntry x + uptoBulkEntries r
def uptoBulkEntry {H : Type} : Lit × DataW H → Nat
  | (.string bytes, d) => bytes.length + uptoBulk d + 1
  | (_, d) => uptoBulk d + 1
 end
def uptoSmall : (H : Type) → List (DataW H) → Bool := fun _ ds => decide (uptoBulkAll ds ≤ 1048576)
def OpenSpec.upto (s : _root_.Go.ChangeSpec) : _root_.Go.OpenSpec := { _root_.Go.OpenSpec.ofChange s with cond := some uptoSmall }

/-- 'laws.FnExactHopsOfMessage', WHERE WHAT IT READS IS OF BULK AT MOST 1048576: true; the input reads as it did. -/
def fnExactHopsOfMessageUptoRow : OpenClaim := { program := "ytgkbeejkbhhjkaa", sum := "393e3c11c18bc2543819a3df7a1263ecfe64ac09268b5920b3337b101ef91580", func := "loop.example/g01176/laws.FnExactHopsOfMessage", spec := "fnExactHopsOfMessage", unfollowed := true, recurses := true, apart := false, narrowed := true }
def FnExactHopsOfMessageUptoSaid : Prop := fnExactHopsOfMessageUptoRow.holds Try.pinned (OpenSpec.upto fnExactHopsOfMessageSpec)

/-- 'laws.FnExactAreMessages', WHERE WHAT IT READS IS OF BULK AT MOST 1048576: true; the input reads as it did. -/
def fnExactAreMessagesUptoRow : OpenClaim := { program := "ytgkbeejkbhhjkaa", sum := "393e3c11c18bc2543819a3df7a1263ecfe64ac09268b5920b3337b101ef91580", func := "loop.example/g01176/laws.FnExactAreMessages", spec := "fnExactAreMessages", unfollowed := true, recurses := true, apart := false, narrowed := true }
def FnExactAreMessagesUptoSaid : Prop := fnExactAreMessagesUptoRow.holds Try.pinned (OpenSpec.upto fnExactAreMessagesSpec)

/-- 'laws.FnExactSlotBound', WHERE WHAT IT READS IS OF BULK AT MOST 1048576: true; the input reads as it did. -/
def fnExactSlotBoundUptoRow : OpenClaim := { program := "ytgkbeejkbhhjkaa", sum := "393e3c11c18bc2543819a3df7a1263ecfe64ac09268b5920b3337b101ef91580", func := "loop.example/g01176/laws.FnExactSlotBound", spec := "fnExactSlotBound", unfollowed := true, recurses := true, apart := false, narrowed := true }
def FnExactSlotBoundUptoSaid : Prop := fnExactSlotBoundUptoRow.holds Try.pinned (OpenSpec.upto fnExactSlotBoundSpec)

/-- 'laws.FnExactTurnMessages', WHERE WHAT IT READS IS OF BULK AT MOST 1048576: true; the input reads as it did. -/
def fnExactTurnMessagesUptoRow : OpenClaim := { program := "ytgkbeejkbhhjkaa", sum := "393e3c11c18bc2543819a3df7a1263ecfe64ac09268b5920b3337b101ef91580", func := "loop.example/g01176/laws.FnExactTurnMessages", spec := "fnExactTurnMessages", unfollowed := true, recurses := true, apart := false, narrowed := true }
def FnExactTurnMessagesUptoSaid : Prop := fnExactTurnMessagesUptoRow.holds Try.pinned (OpenSpec.upto fnExactTurnMessagesSpec)

/-- 'laws.FnExactLoadOfLinks', WHERE WHAT IT READS IS OF BULK AT MOST 1048576: true; the input reads as it did. -/
def fnExactLoadOfLinksUptoRow : OpenClaim := { program := "ytgkbeejkbhhjkaa", sum := "393e3c11c18bc2543819a3df7a1263ecfe64ac09268b5920b3337b101ef91580", func := "loop.example/g01176/laws.FnExactLoadOfLinks", spec := "fnExactLoadOfLinks", unfollowed := true, recurses := true, apart := false, narrowed := true }
def FnExactLoadOfLinksUptoSaid : Prop := fnExactLoadOfLinksUptoRow.holds Try.pinned (OpenSpec.upto fnExactLoadOfLinksSpec)

/-- 'laws.FnExactFullTicks', WHERE WHAT IT READS IS OF BULK AT MOST 1048576: true; the input reads as it did. -/
def fnExactFullTicksUptoRow : OpenClaim := { program := "ytgkbeejkbhhjkaa", sum := "393e3c11c18bc2543819a3df7a1263ecfe64ac09268b5920b3337b101ef91580", func := "loop.example/g01176/laws.FnExactFullTicks", spec := "fnExactFullTicks", unfollowed := true, recurses := true, apart := false, narrowed := true }
def FnExactFullTicksUptoSaid : Prop := fnExactFullTicksUptoRow.holds Try.pinned (OpenSpec.upto fnExactFullTicksSpec)

/-- 'laws.FnExactSlotsAt', WHERE WHAT IT READS IS OF BULK AT MOST 1048576: true; the input reads as it did. -/
def fnExactSlotsAtUptoRow : OpenClaim := { program := "ytgkbeejkbhhjkaa", sum := "393e3c11c18bc2543819a3df7a1263ecfe64ac09268b5920b3337b101ef91580", func := "loop.example/g01176/laws.FnExactSlotsAt", spec := "fnExactSlotsAt", unfollowed := true, recurses := true, apart := false, narrowed := true }
def FnExactSlotsAtUptoSaid : Prop := fnExactSlotsAtUptoRow.holds Try.pinned (OpenSpec.upto fnExactSlotsAtSpec)

/-- 'laws.FnExactLastRead', WHERE WHAT IT READS IS OF BULK AT MOST 1048576: true; the input reads as it did. -/
def fnExactLastReadUptoRow : OpenClaim := { program := "ytgkbeejkbhhjkaa", sum := "393e3c11c18bc2543819a3df7a1263ecfe64ac09268b5920b3337b101ef91580", func := "loop.example/g01176/laws.FnExactLastRead", spec := "fnExactLastRead", unfollowed := true, recurses := true, apart := false, narrowed := true }
def FnExactLastReadUptoSaid : Prop := fnExactLastReadUptoRow.holds Try.pinned (OpenSpec.upto fnExactLastReadSpec)

/-- 'laws.FnExactFilledAt', WHERE WHAT IT READS IS OF BULK AT MOST 1048576: true; the input reads as it did. -/
def fnExactFilledAtUptoRow : OpenClaim := { program := "ytgkbeejkbhhjkaa", sum := "393e3c11c18bc2543819a3df7a1263ecfe64ac09268b5920b3337b101ef91580", func := "loop.example/g01176/laws.FnExactFilledAt", spec := "fnExactFilledAt", unfollowed := true, recurses := true, apart := false, narrowed := true }
def FnExactFilledAtUptoSaid : Prop := fnExactFilledAtUptoRow.holds Try.pinned (OpenSpec.upto fnExactFilledAtSpec)

/-- 'laws.FnExactReadAt', WHERE WHAT IT READS IS OF BULK AT MOST 1048576: true; the input reads as it did. -/
def fnExactReadAtUptoRow : OpenClaim := { program := "ytgkbeejkbhhjkaa", sum := "393e3c11c18bc2543819a3df7a1263ecfe64ac09268b5920b3337b101ef91580", func := "loop.example/g01176/laws.FnExactReadAt", spec := "fnExactReadAt", unfollowed := true, recurses := true, apart := false, narrowed := true }
def FnExactReadAtUptoSaid : Prop := fnExactReadAtUptoRow.holds Try.pinned (OpenSpec.upto fnExactReadAtSpec)

/-- 'laws.FnExactQueueAt', WHERE WHAT IT READS IS OF BULK AT MOST 1048576: true; the input reads as it did. -/
def fnExactQueueAtUptoRow : OpenClaim := { program := "ytgkbeejkbhhjkaa", sum := "393e3c11c18bc2543819a3df7a1263ecfe64ac09268b5920b3337b101ef91580", func := "loop.example/g01176/laws.FnExactQueueAt", spec := "fnExactQueueAt", unfollowed := true, recurses := true, apart := false, narrowed := true }
def FnExactQueueAtUptoSaid : Prop := fnExactQueueAtUptoRow.holds Try.pinned (OpenSpec.upto fnExactQueueAtSpec)

end Rows
end Go.Proofs.Ytgkbeejkbhhjkaa
