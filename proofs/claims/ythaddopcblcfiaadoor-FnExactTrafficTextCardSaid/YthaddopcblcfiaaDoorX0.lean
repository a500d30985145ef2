/- What the functions of the program come to, and that they do: written by this session's program wip/xprint.py out of the translation; parts named extern are typed by hand. -/
import Derived.Test.YthaddopcblcfiaaDoorProg
import Derived.Below
import Derived.Deep.Draws
import Derived.Deep.AppendLies
import Derived.Maps.AppendAt
import Derived.OwnWalk
import Derived.Laws.BytesArg
import Derived.Laws.MakeOwn
import Derived.Laws.OwnMore
import Derived.Deep.OwnRows
import Derived.Tactics
import Derived.Lib.ConvBytes
import Derived.Laws.Slices
import Derived.WalkKit
import Derived.KernelRfl
import Derived.RowKit3
import Derived.Deep.LoopGhost
import Derived.Deep.QuietTactic
import Derived.BigQuiet
import Derived.WideLaws
import Derived.Deep.DeepCutAuto
import Derived.Deep.CutBlock
import Derived.Deep.RegionHeld3
import Derived.Laws.Rows
import Derived.Lib.AppendStr
import Derived.ArgAppend
import Derived.Laws.IdiomCopy
import Derived.OrdersHeld
import Derived.Laws.BitsLemmas
import Derived.RowKit
import Derived.WalkSpells
import Derived.Lib.AppendIntMem
import Derived.Lib.SmallJoins
import Derived.Test.YthaddopcblcfiaaDoorShelf
import Derived.Test.YthaddopcblcfiaaDoorWWords
import Derived.Test.YthaddopcblcfiaaDoorWLast
import Derived.Test.YthaddopcblcfiaaDoorWTab
import Derived.Test.YthaddopcblcfiaaDoorWFour
import Derived.Test.YthaddopcblcfiaaDoorWQPut
import Derived.Test.YthaddopcblcfiaaDoorWApart
import Derived.Test.YthaddopcblcfiaaDoorWArr
import Derived.Test.YthaddopcblcfiaaDoorWZeros
import Derived.Test.YthaddopcblcfiaaDoorWFoot
import Derived.Test.YthaddopcblcfiaaDoorWKept
import Derived.Test.YthaddopcblcfiaaDoorWShare
import Derived.Test.YthaddopcblcfiaaDoorWN
import Derived.Test.YthaddopcblcfiaaDoorWFootNe
import Derived.Test.YthaddopcblcfiaaDoorWAt
import Derived.Test.YthaddopcblcfiaaDoorWEqStruct
import Derived.Test.YthaddopcblcfiaaDoorWRepsOne
import Derived.Test.YthaddopcblcfiaaDoorWInv
import Derived.Test.YthaddopcblcfiaaDoorWInvWords
import Derived.Test.YthaddopcblcfiaaDoorWGuard
import Derived.Test.YthaddopcblcfiaaDoorWNEv
import Derived.Test.YthaddopcblcfiaaDoorWMore
namespace Go.Proofs.YthaddopcblcfiaaDoor.X
open Go.RowKit Go.Proofs.YthaddopcblcfiaaDoorW.PrintWords Go.Proofs.YthaddopcblcfiaaDoorW.PrintLast Go.Proofs.YthaddopcblcfiaaDoorW.PrintMore
attribute [local go_sem] max2_int min2_int max_two min_two max_three min_three max_four min_four   -- for this text's walks alone
set_option linter.unusedVariables false
set_option linter.unusedSimpArgs false



def errW : Option Int → Value
  | none => .nilIface
  | some c => .iface 0 (.int .i64 c)
theorem errW_none : errW none = .nilIface := rfl
theorem errW_some (c : Int) : errW (some c) = .iface 0 (.int .i64 c) := rfl

theorem info3 : (Tryd.prog.info? 3).map (fun i => (i.zero, i.size, i.bytes)) = some (some (.int .i64 0), 1, 8) := by kernel_rfl
theorem info5 : (Tryd.prog.info? 5).map (fun i => (i.zero, i.size, i.bytes)) = some (some (.int .u8 0), 1, 1) := by kernel_rfl
theorem info9 : (Tryd.prog.info? 9).map (fun i => (i.zero, i.size, i.bytes)) = some (some (.string ⟨#[]⟩), 1, 16) := by kernel_rfl
-- the values' own types

end Go.Proofs.YthaddopcblcfiaaDoor.X
