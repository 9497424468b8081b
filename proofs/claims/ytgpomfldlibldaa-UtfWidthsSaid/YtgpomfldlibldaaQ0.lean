-- Written by a program of this session's (wip/xprint.py), out of the seat's translation.
import Derived.Test.YtgpomfldlibldaaProg
import Derived.Below
import Derived.Deep.Draws
import Derived.Deep.AppendLies
import Derived.Maps.AppendAt
import Derived.OwnWalk
import Derived.Laws.BytesArg
import Derived.Laws.MakeOwn
import Derived.Laws.OwnMore
import Derived.Deep.OwnRows
import Derived.Tactics
import Derived.Lib.ConvBytes
import Derived.Laws.Slices
import Derived.WalkKit
import Derived.KernelRfl
import Derived.RowKit3
import Derived.Deep.LoopGhost
import Derived.Deep.QuietTactic
import Derived.BigQuiet
import Derived.WideLaws
import Derived.Deep.DeepCutAuto
import Derived.Deep.CutBlock
import Derived.Deep.RegionHeld3
import Derived.Laws.Rows
import Derived.Lib.AppendStr
import Derived.ArgAppend
import Derived.Laws.IdiomCopy
import Derived.OrdersHeld
import Derived.Laws.BitsLemmas
import Derived.RowKit
import Derived.Test.YtgpomfldlibldaaShelf
import Derived.Test.YtgpomfldlibldaaWWords
import Derived.Test.YtgpomfldlibldaaWLast
import Derived.Test.YtgpomfldlibldaaWTab
import Derived.Test.YtgpomfldlibldaaWFour
import Derived.Test.YtgpomfldlibldaaWQPut
import Derived.Test.YtgpomfldlibldaaWApart
import Derived.Test.YtgpomfldlibldaaWArr
import Derived.Test.YtgpomfldlibldaaWZeros
import Derived.Test.YtgpomfldlibldaaWFoot
import Derived.Test.YtgpomfldlibldaaWKept
import Derived.Test.YtgpomfldlibldaaWShare
import Derived.Test.YtgpomfldlibldaaWN
import Derived.Test.YtgpomfldlibldaaWFootNe
import Derived.Test.YtgpomfldlibldaaWAt
import Derived.Test.YtgpomfldlibldaaWEqStruct
import Derived.Test.YtgpomfldlibldaaWRepsOne
import Derived.Test.YtgpomfldlibldaaWInv
import Derived.Test.YtgpomfldlibldaaWInvWords
import Derived.Test.YtgpomfldlibldaaWGuard
import Derived.Test.YtgpomfldlibldaaWNEv
import Derived.Test.YtgpomfldlibldaaWMore
namespace Go.Proofs.Ytgpomfldlibldaa.Q
open Go.RowKit Go.Proofs.YtgpomfldlibldaaW.PrintWords Go.Proofs.YtgpomfldlibldaaW.PrintLast Go.Proofs.YtgpomfldlibldaaW.PrintMore
attribute [local go_sem] max2_int min2_int max_two min_two max_three min_three max_four min_four   -- for this text's walks alone
set_option linter.unusedVariables false
set_option linter.unusedSimpArgs false



def errW : Option Int → Value
  | none => .nilIface
  | some c => .iface 0 (.int .i64 c)
theorem errW_none : errW none = .nilIface := rfl
theorem errW_some (c : Int) : errW (some c) = .iface 0 (.int .i64 c) := rfl

theorem info3 : (Try.prog.info? 3).map (fun i => (i.zero, i.size, i.bytes)) = some (some (.int .i64 0), 1, 8) := by kernel_rfl
theorem info5 : (Try.prog.info? 5).map (fun i => (i.zero, i.size, i.bytes)) = some (some (.int .u8 0), 1, 1) := by kernel_rfl
-- the values' own types

end Go.Proofs.Ytgpomfldlibldaa.Q
