/-
  No cell of these rows narrows 'for every input' (looked for: loops, veiled, ifaces, maps, wideKeys, modest, calm, conditions, laid).
  DERIVED. THE GIVEN ROWS OF THIS SEAT. 7 by the template 'for every input the law returns true; each argument reads behind the call as it read before'; 0 by the template 'total and deterministic' (their statements: YtjfjpfgnclnehaaTotals.lean).
  GIVEN WITH THE SEED: the statements are not yours to turn. If you find one false, say at which input.
  Laid BY PROGRAM, IN A SANDBOX (cutbox-rows.mjs): the forced cells as the released guide's own fill.sh prints them over the translation 600c6dbf4af9a24a… (all of the seat's roots in one cut). By AI agents, Wed Nov 11 2026. No macro, syntax, notation, axiom, sorry.
-/
import Derived.Test.YtjfjpfgnclnehaaChecked
import GoSem.Claim
import GoSem.ClaimJoined
import GoSem.ClaimMapViews
import Derived.JoinedTies
import Derived.KernelRfl
namespace Go.Proofs.Ytjfjpfgnclnehaa
/- THE CELL 'sum', in the pinned program and in every row, IS THE sha256 OF THE DUMP (.gsa) THAT YtjfjpfgnclnehaaProg.lean LOADS. Nothing in Lean hashes anything: it is a label: what it is worth is what the hold of that sum in a sandbox is worth. -/
noncomputable def Try.pinned : Pinned := { name := "ytjfjpfgnclnehaa", sum := "600c6dbf4af9a24a4725557eba7a8eb5d0308db4f1674eea5ace4899721c99e6", checked := Try.checked }
namespace Rows
def none {H : Type} : Left H := { results := [], args := [] }

/-- 'laws.FnExactAreStates': WHATEVER THE INPUT: true; the input reads as it did. -/
def fnExactAreStatesSpec : ChangeSpec := { name := "fnExactAreStates", fn := fun _ => fun
  | [d1, d2] => { results := [.lit (.bool true)], args := [d1, d2] }
  | _ => none }
def fnExactAreStatesRow : OpenClaim := { program := "ytjfjpfgnclnehaa", sum := "600c6dbf4af9a24a4725557eba7a8eb5d0308db4f1674eea5ace4899721c99e6", func := "loop.example/g01176/laws.FnExactAreStates", spec := "fnExactAreStates", unfollowed := true, recurses := true, plainKeys := false, apart := false }
def FnExactAreStatesSaid : Prop := fnExactAreStatesRow.holds Try.pinned (OpenSpec.ofChange fnExactAreStatesSpec)

/-- ITS FALSE NEIGHBOUR: 'it returns false'. Refute it at one input. -/
def fnExactAreStatesWrong : ChangeSpec := { name := "fnExactAreStates", fn := fun _ => fun
  | [d1, d2] => { results := [.lit (.bool false)], args := [d1, d2] }
  | _ => none }
def FnExactAreStatesWrongFalsely : Prop := fnExactAreStatesRow.holds Try.pinned (OpenSpec.ofChange fnExactAreStatesWrong)

/-- 'laws.FnExactIsOneToken': WHATEVER THE INPUT: true; the input reads as it did. -/
def fnExactIsOneTokenSpec : ChangeSpec := { name := "fnExactIsOneToken", fn := fun _ => fun
  | [d1, d2] => { results := [.lit (.bool true)], args := [d1, d2] }
  | _ => none }
def fnExactIsOneTokenRow : OpenClaim := { program := "ytjfjpfgnclnehaa", sum := "600c6dbf4af9a24a4725557eba7a8eb5d0308db4f1674eea5ace4899721c99e6", func := "loop.example/g01176/laws.FnExactIsOneToken", spec := "fnExactIsOneToken", unfollowed := true, recurses := true, plainKeys := false, apart := false }
def FnExactIsOneTokenSaid : Prop := fnExactIsOneTokenRow.holds Try.pinned (OpenSpec.ofChange fnExactIsOneTokenSpec)

/-- ITS FALSE NEIGHBOUR: 'it returns false'. Refute it at one input. -/
def fnExactIsOneTokenWrong : ChangeSpec := { name := "fnExactIsOneToken", fn := fun _ => fun
  | [d1, d2] => { results := [.lit (.bool false)], args := [d1, d2] }
  | _ => none }
def FnExactIsOneTokenWrongFalsely : Prop := fnExactIsOneTokenRow.holds Try.pinned (OpenSpec.ofChange fnExactIsOneTokenWrong)

/-- 'laws.FnExactCountOneToken': WHATEVER THE INPUT: true; the input reads as it did. -/
def fnExactCountOneTokenSpec : ChangeSpec := { name := "fnExactCountOneToken", fn := fun _ => fun
  | [d1, d2] => { results := [.lit (.bool true)], args := [d1, d2] }
  | _ => none }
def fnExactCountOneTokenRow : OpenClaim := { program := "ytjfjpfgnclnehaa", sum := "600c6dbf4af9a24a4725557eba7a8eb5d0308db4f1674eea5ace4899721c99e6", func := "loop.example/g01176/laws.FnExactCountOneToken", spec := "fnExactCountOneToken", unfollowed := true, recurses := true, plainKeys := false, apart := false }
def FnExactCountOneTokenSaid : Prop := fnExactCountOneTokenRow.holds Try.pinned (OpenSpec.ofChange fnExactCountOneTokenSpec)

/-- ITS FALSE NEIGHBOUR: 'it returns false'. Refute it at one input. -/
def fnExactCountOneTokenWrong : ChangeSpec := { name := "fnExactCountOneToken", fn := fun _ => fun
  | [d1, d2] => { results := [.lit (.bool false)], args := [d1, d2] }
  | _ => none }
def FnExactCountOneTokenWrongFalsely : Prop := fnExactCountOneTokenRow.holds Try.pinned (OpenSpec.ofChange fnExactCountOneTokenWrong)

/-- 'laws.FnExactHoldersOf': WHATEVER THE INPUT: true; the input reads as it did. -/
def fnExactHoldersOfSpec : ChangeSpec := { name := "fnExactHoldersOf", fn := fun _ => fun
  | [d1, d2] => { results := [.lit (.bool true)], args := [d1, d2] }
  | _ => none }
def fnExactHoldersOfRow : OpenClaim := { program := "ytjfjpfgnclnehaa", sum := "600c6dbf4af9a24a4725557eba7a8eb5d0308db4f1674eea5ace4899721c99e6", func := "loop.example/g01176/laws.FnExactHoldersOf", spec := "fnExactHoldersOf", unfollowed := true, recurses := true, plainKeys := false, apart := false }
def FnExactHoldersOfSaid : Prop := fnExactHoldersOfRow.holds Try.pinned (OpenSpec.ofChange fnExactHoldersOfSpec)

/-- ITS FALSE NEIGHBOUR: 'it returns false'. Refute it at one input. -/
def fnExactHoldersOfWrong : ChangeSpec := { name := "fnExactHoldersOf", fn := fun _ => fun
  | [d1, d2] => { results := [.lit (.bool false)], args := [d1, d2] }
  | _ => none }
def FnExactHoldersOfWrongFalsely : Prop := fnExactHoldersOfRow.holds Try.pinned (OpenSpec.ofChange fnExactHoldersOfWrong)

/-- 'laws.FnExactFireStation': WHATEVER THE INPUT: true; the input reads as it did. -/
def fnExactFireStationSpec : ChangeSpec := { name := "fnExactFireStation", fn := fun _ => fun
  | [d1, d2, d3] => { results := [.lit (.bool true)], args := [d1, d2, d3] }
  | _ => none }
def fnExactFireStationRow : OpenClaim := { program := "ytjfjpfgnclnehaa", sum := "600c6dbf4af9a24a4725557eba7a8eb5d0308db4f1674eea5ace4899721c99e6", func := "loop.example/g01176/laws.FnExactFireStation", spec := "fnExactFireStation", unfollowed := true, recurses := true, plainKeys := false, apart := false }
def FnExactFireStationSaid : Prop := fnExactFireStationRow.holds Try.pinned (OpenSpec.ofChange fnExactFireStationSpec)

/-- ITS FALSE NEIGHBOUR: 'it returns false'. Refute it at one input. -/
def fnExactFireStationWrong : ChangeSpec := { name := "fnExactFireStation", fn := fun _ => fun
  | [d1, d2, d3] => { results := [.lit (.bool false)], args := [d1, d2, d3] }
  | _ => none }
def FnExactFireStationWrongFalsely : Prop := fnExactFireStationRow.holds Try.pinned (OpenSpec.ofChange fnExactFireStationWrong)

/-- 'laws.FnExactRunFires': WHATEVER THE INPUT: true; the input reads as it did. -/
def fnExactRunFiresSpec : ChangeSpec := { name := "fnExactRunFires", fn := fun _ => fun
  | [d1, d2, d3] => { results := [.lit (.bool true)], args := [d1, d2, d3] }
  | _ => none }
def fnExactRunFiresRow : OpenClaim := { program := "ytjfjpfgnclnehaa", sum := "600c6dbf4af9a24a4725557eba7a8eb5d0308db4f1674eea5ace4899721c99e6", func := "loop.example/g01176/laws.FnExactRunFires", spec := "fnExactRunFires", unfollowed := true, recurses := true, plainKeys := false, apart := false }
def FnExactRunFiresSaid : Prop := fnExactRunFiresRow.holds Try.pinned (OpenSpec.ofChange fnExactRunFiresSpec)

/-- ITS FALSE NEIGHBOUR: 'it returns false'. Refute it at one input. -/
def fnExactRunFiresWrong : ChangeSpec := { name := "fnExactRunFires", fn := fun _ => fun
  | [d1, d2, d3] => { results := [.lit (.bool false)], args := [d1, d2, d3] }
  | _ => none }
def FnExactRunFiresWrongFalsely : Prop := fnExactRunFiresRow.holds Try.pinned (OpenSpec.ofChange fnExactRunFiresWrong)

/-- 'laws.FnExactLongestRepair': WHATEVER THE INPUT: true; the input reads as it did. -/
def fnExactLongestRepairSpec : ChangeSpec := { name := "fnExactLongestRepair", fn := fun _ => fun
  | [d1, d2] => { results := [.lit (.bool true)], args := [d1, d2] }
  | _ => none }
def fnExactLongestRepairRow : OpenClaim := { program := "ytjfjpfgnclnehaa", sum := "600c6dbf4af9a24a4725557eba7a8eb5d0308db4f1674eea5ace4899721c99e6", func := "loop.example/g01176/laws.FnExactLongestRepair", spec := "fnExactLongestRepair", unfollowed := true, recurses := true, plainKeys := false, apart := false }
def FnExactLongestRepairSaid : Prop := fnExactLongestRepairRow.holds Try.pinned (OpenSpec.ofChange fnExactLongestRepairSpec)

/-- ITS FALSE NEIGHBOUR: 'it returns false'. Refute it at one input. -/
def fnExactLongestRepairWrong : ChangeSpec := { name := "fnExactLongestRepair", fn := fun _ => fun
  | [d1, d2] => { results := [.lit (.bool false)], args := [d1, d2] }
  | _ => none }
def FnExactLongestRepairWrongFalsely : Prop := fnExactLongestRepairRow.holds Try.pinned (OpenSpec.ofChange fnExactLongestRepairWrong)

/- THE SECOND FORM. 'bulk': how many values and letters a reading holds, each counted each time it is reached (what is shared counts as often as it is met; a slice's spare places count too). A statement '..UptoSaid' is the law's where the arguments, and the package variables that the reading takes, are together of bulk at most 1048576: NARROWER than '..Said'. Prove '..Said' where nothing that the law and all that it calls make is longer than what came in: it says more and counts as full. Else prove '..UptoSaid'. A law counts once. -/
mutual
def uptoBulk {H : Type} : DataW H → Nat
  | .lit (.string bytes) => bytes.length + 1
  | .lit _ => 1
  | .nil => 1
  | .ptr d => uptoBulk d + 1
  | .slice elems spare => uptoBulkAll elems + uptoBulkAll spare + 1
  | .agg parts => uptoBulkAll parts + 1
  | .iface _ d => uptoBulk d + 1
  | .map entries => uptoBulkEntries entries + 1
  | .held _ => 1
def uptoBulkAll {H : Type} : List (DataW H) → Nat
  | [] => 0
  | d :: r => uptoBulk d + uptoBulkAll r
def uptoBulkEntries {H : Type} : List (Lit × DataW H) → Nat
  | [] => 0
  | x :: r => uptoBulkEntry x + uptoBulkEntries r
def uptoBulkEntry {H : Type} : Lit × DataW H → Nat
  | (.string bytes, d) => bytes.length + uptoBulk d + 1
  | (_, d) => uptoBulk d + 1
 end
def uptoSmall : (H : Type) → List (DataW H) → Bool := fun _ ds => decide (uptoBulkAll ds ≤ 1048576)
def OpenSpec.upto (s : _root_.Go.ChangeSpec) : _root_.Go.OpenSpec := { _root_.Go.OpenSpec.ofChange s with cond := some uptoSmall }

/-- 'laws.FnExactAreStates', WHERE WHAT IT READS IS OF BULK AT MOST 1048576: true; the input reads as it did. -/
def fnExactAreStatesUptoRow : OpenClaim := { program := "ytjfjpfgnclnehaa", sum := "600c6dbf4af9a24a4725557eba7a8eb5d0308db4f1674eea5ace4899721c99e6", func := "loop.example/g01176/laws.FnExactAreStates", spec := "fnExactAreStates", unfollowed := true, recurses := true, plainKeys := false, apart := false, narrowed := true }
def FnExactAreStatesUptoSaid : Prop := fnExactAreStatesUptoRow.holds Try.pinned (OpenSpec.upto fnExactAreStatesSpec)

/-- 'laws.FnExactIsOneToken', WHERE WHAT IT READS IS OF BULK AT MOST 1048576: true; the input reads as it did. -/
def fnExactIsOneTokenUptoRow : OpenClaim := { program := "ytjfjpfgnclnehaa", sum := "600c6dbf4af9a24a4725557eba7a8eb5d0308db4f1674eea5ace4899721c99e6", func := "loop.example/g01176/laws.FnExactIsOneToken", spec := "fnExactIsOneToken", unfollowed := true, recurses := true, plainKeys := false, apart := false, narrowed := true }
def FnExactIsOneTokenUptoSaid : Prop := fnExactIsOneTokenUptoRow.holds Try.pinned (OpenSpec.upto fnExactIsOneTokenSpec)

/-- 'laws.FnExactCountOneToken', WHERE WHAT IT READS IS OF BULK AT MOST 1048576: true; the input reads as it did. -/
def fnExactCountOneTokenUptoRow : OpenClaim := { program := "ytjfjpfgnclnehaa", sum := "600c6dbf4af9a24a4725557eba7a8eb5d0308db4f1674eea5ace4899721c99e6", func := "loop.example/g01176/laws.FnExactCountOneToken", spec := "fnExactCountOneToken", unfollowed := true, recurses := true, plainKeys := false, apart := false, narrowed := true }
def FnExactCountOneTokenUptoSaid : Prop := fnExactCountOneTokenUptoRow.holds Try.pinned (OpenSpec.upto fnExactCountOneTokenSpec)

/-- 'laws.FnExactHoldersOf', WHERE WHAT IT READS IS OF BULK AT MOST 1048576: true; the input reads as it did. -/
def fnExactHoldersOfUptoRow : OpenClaim := { program := "ytjfjpfgnclnehaa", sum := "600c6dbf4af9a24a4725557eba7a8eb5d0308db4f1674eea5ace4899721c99e6", func := "loop.example/g01176/laws.FnExactHoldersOf", spec := "fnExactHoldersOf", unfollowed := true, recurses := true, plainKeys := false, apart := false, narrowed := true }
def FnExactHoldersOfUptoSaid : Prop := fnExactHoldersOfUptoRow.holds Try.pinned (OpenSpec.upto fnExactHoldersOfSpec)

/-- 'laws.FnExactFireStation', WHERE WHAT IT READS IS OF BULK AT MOST 1048576: true; the input reads as it did. -/
def fnExactFireStationUptoRow : OpenClaim := { program := "ytjfjpfgnclnehaa", sum := "600c6dbf4af9a24a4725557eba7a8eb5d0308db4f1674eea5ace4899721c99e6", func := "loop.example/g01176/laws.FnExactFireStation", spec := "fnExactFireStation", unfollowed := true, recurses := true, plainKeys := false, apart := false, narrowed := true }
def FnExactFireStationUptoSaid : Prop := fnExactFireStationUptoRow.holds Try.pinned (OpenSpec.upto fnExactFireStationSpec)

/-- 'laws.FnExactRunFires', WHERE WHAT IT READS IS OF BULK AT MOST 1048576: true; the input reads as it did. -/
def fnExactRunFiresUptoRow : OpenClaim := { program := "ytjfjpfgnclnehaa", sum := "600c6dbf4af9a24a4725557eba7a8eb5d0308db4f1674eea5ace4899721c99e6", func := "loop.example/g01176/laws.FnExactRunFires", spec := "fnExactRunFires", unfollowed := true, recurses := true, plainKeys := false, apart := false, narrowed := true }
def FnExactRunFiresUptoSaid : Prop := fnExactRunFiresUptoRow.holds Try.pinned (OpenSpec.upto fnExactRunFiresSpec)

/-- 'laws.FnExactLongestRepair', WHERE WHAT IT READS IS OF BULK AT MOST 1048576: true; the input reads as it did. -/
def fnExactLongestRepairUptoRow : OpenClaim := { program := "ytjfjpfgnclnehaa", sum := "600c6dbf4af9a24a4725557eba7a8eb5d0308db4f1674eea5ace4899721c99e6", func := "loop.example/g01176/laws.FnExactLongestRepair", spec := "fnExactLongestRepair", unfollowed := true, recurses := true, plainKeys := false, apart := false, narrowed := true }
def FnExactLongestRepairUptoSaid : Prop := fnExactLongestRepairUptoRow.holds Try.pinned (OpenSpec.upto fnExactLongestRepairSpec)

end Rows
end Go.Proofs.Ytjfjpfgnclnehaa
