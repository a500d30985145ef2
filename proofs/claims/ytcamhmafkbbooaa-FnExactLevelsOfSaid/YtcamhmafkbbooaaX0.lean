/- What the functions of the program come to, and that they do: written by this session's program wip/xprint.py out of the translation; parts named extern are typed by hand. -/
import Derived.Test.YtcamhmafkbbooaaProg
import Derived.Below
import Derived.Deep.Draws
import Derived.Deep.AppendLies
import Derived.Maps.AppendAt
import Derived.OwnWalk
import Derived.Laws.BytesArg
import Derived.Laws.MakeOwn
import Derived.Laws.OwnMore
import Derived.Deep.OwnRows
import Derived.Tactics
import Derived.Lib.ConvBytes
import Derived.Laws.Slices
import Derived.WalkKit
import Derived.KernelRfl
import Derived.RowKit3
import Derived.Deep.LoopGhost
import Derived.Deep.QuietTactic
import Derived.BigQuiet
import Derived.WideLaws
import Derived.Deep.DeepCutAuto
import Derived.Deep.CutBlock
import Derived.Deep.RegionHeld3
import Derived.Laws.Rows
import Derived.Lib.AppendStr
import Derived.ArgAppend
import Derived.Laws.IdiomCopy
import Derived.OrdersHeld
import Derived.Laws.BitsLemmas
import Derived.RowKit
import Derived.Test.YtcamhmafkbbooaaWWords
import Derived.Test.YtcamhmafkbbooaaWLast
import Derived.Test.YtcamhmafkbbooaaWTab
import Derived.Test.YtcamhmafkbbooaaWFour
import Derived.Test.YtcamhmafkbbooaaWQPut
import Derived.Test.YtcamhmafkbbooaaWApart
import Derived.Test.YtcamhmafkbbooaaWArr
import Derived.Test.YtcamhmafkbbooaaWZeros
import Derived.Test.YtcamhmafkbbooaaWFoot
import Derived.Test.YtcamhmafkbbooaaWKept
import Derived.Test.YtcamhmafkbbooaaWShare
import Derived.Test.YtcamhmafkbbooaaWN
import Derived.Test.YtcamhmafkbbooaaWFootNe
import Derived.Test.YtcamhmafkbbooaaWAt
import Derived.Test.YtcamhmafkbbooaaWEqStruct
import Derived.Test.YtcamhmafkbbooaaWRepsOne
import Derived.Test.YtcamhmafkbbooaaWInv
import Derived.Test.YtcamhmafkbbooaaWInvWords
import Derived.Test.YtcamhmafkbbooaaWGuard
import Derived.Test.YtcamhmafkbbooaaWNEv
import Derived.Test.YtcamhmafkbbooaaWMore
namespace Go.Proofs.Ytcamhmafkbbooaa.X
open Go.RowKit Go.Proofs.YtcamhmafkbbooaaW.PrintWords Go.Proofs.YtcamhmafkbbooaaW.PrintLast Go.Proofs.YtcamhmafkbbooaaW.PrintMore
attribute [local go_sem] max2_int min2_int max_two min_two max_three min_three max_four min_four   -- for this text's walks alone
set_option linter.unusedVariables false
set_option linter.unusedSimpArgs false



def errW : Option Int → Value
  | none => .nilIface
  | some c => .iface 0 (.int .i64 c)
theorem errW_none : errW none = .nilIface := rfl
theorem errW_some (c : Int) : errW (some c) = .iface 0 (.int .i64 c) := rfl

theorem info3 : (Try.prog.info? 3).map (fun i => (i.zero, i.size, i.bytes)) = some (some (.int .i64 0), 1, 8) := by kernel_rfl
-- the values' own types

end Go.Proofs.Ytcamhmafkbbooaa.X
