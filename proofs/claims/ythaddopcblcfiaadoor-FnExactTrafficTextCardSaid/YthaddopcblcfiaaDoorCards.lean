/-
  DERIVED. GIVEN WITH THE SEED: THE CARDS: each row of YthaddopcblcfiaaDoorRows.lean that lists a variable, with what it lists TIED to the program's text (the seventh form; the later family's looks); each row that meets fmt, with fmt's text TOLD by the authors' own Lean function (tested against real Go, not proved from fmt's source: count such statements apart). THE CARD IS WHAT COUNTS. Prove the row's statement (the work); the ties are given (YthaddopcblcfiaaDoorTie.lean); close each card by the builder's one call (the guide's Derived/Test/ToyasCard.lean, 'card_holds'). Laid BY PROGRAM, IN A SANDBOX (cutbox-door.mjs). By AI agents, Wed Nov 11 2026. No macro, syntax, notation, axiom, sorry.
-/
import Derived.Test.YthaddopcblcfiaaDoorRows
import GoSem.ClaimSeven
namespace Go.Proofs.YthaddopcblcfiaaDoor
namespace Rows

/-- THE TIED CARD OF 'laws.FnExactTrafficText'. -/
def fnExactTrafficTextCard : Claim7 := { stood := { row := fnExactTrafficTextRow, standIns := [], harness := (true, "7c2fc3966d3cecf5b9159a6d8e4c74e6c978657ef859470cde6f9aaf3b47d4e6"), looks := false }, kinds := [], alts := [], laidByText := true, laidKinds := [.data, .data, .data], laidTests := true, laidLooks := .later }
def FnExactTrafficTextCardSaid : Prop := Claim7.holds Tryd.pinned (.plain (OpenSpec.ofChange fnExactTrafficTextSpec)) fnExactTrafficTextCard

/-- THE SECOND FORM's CARD OF 'laws.FnExactTrafficText'. -/
def fnExactTrafficTextUptoCard : Claim7 := { stood := { row := fnExactTrafficTextUptoRow, standIns := [], harness := (true, "7c2fc3966d3cecf5b9159a6d8e4c74e6c978657ef859470cde6f9aaf3b47d4e6"), looks := false }, kinds := [], alts := [], laidByText := true, laidKinds := [.data, .data, .data], laidTests := true, laidLooks := .later }
def FnExactTrafficTextUptoCardSaid : Prop := Claim7.holds Tryd.pinned (.plain (OpenSpec.upto fnExactTrafficTextSpec)) fnExactTrafficTextUptoCard
end Rows
end Go.Proofs.YthaddopcblcfiaaDoor
