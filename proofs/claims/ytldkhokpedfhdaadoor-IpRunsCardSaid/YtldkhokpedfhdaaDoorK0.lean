-- Written by a program of this session's (wip/xprint.py), out of the seat's translation.
import Derived.Test.YtldkhokpedfhdaaDoorProg
import Derived.Below
import Derived.Deep.Draws
import Derived.Deep.AppendLies
import Derived.Maps.AppendAt
import Derived.OwnWalk
import Derived.Laws.BytesArg
import Derived.Laws.MakeOwn
import Derived.Laws.OwnMore
import Derived.Deep.OwnRows
import Derived.Tactics
import Derived.Lib.ConvBytes
import Derived.Laws.Slices
import Derived.WalkKit
import Derived.KernelRfl
import Derived.RowKit3
import Derived.Deep.LoopGhost
import Derived.Deep.QuietTactic
import Derived.BigQuiet
import Derived.WideLaws
import Derived.Deep.DeepCutAuto
import Derived.Deep.CutBlock
import Derived.Deep.RegionHeld3
import Derived.Laws.Rows
import Derived.Lib.AppendStr
import Derived.ArgAppend
import Derived.Laws.IdiomCopy
import Derived.OrdersHeld
import Derived.Laws.BitsLemmas
import Derived.RowKit
import Derived.Test.YtldkhokpedfhdaaDoorShelf
import Derived.Test.YtldkhokpedfhdaaDoorOwn
import Derived.Lib.SliceRun
import Derived.Sort.OwnSorted
import Derived.Lib.OwnBridge
import Derived.Lib.SlicesCompact
import Derived.BigQuiet
import Derived.Laws.CopyOwn
import Derived.Laws.ResultCell
import Derived.Test.YtldkhokpedfhdaaDoorWWords
import Derived.Test.YtldkhokpedfhdaaDoorWLast
import Derived.Test.YtldkhokpedfhdaaDoorWTab
import Derived.Test.YtldkhokpedfhdaaDoorWFour
import Derived.Test.YtldkhokpedfhdaaDoorWQPut
import Derived.Test.YtldkhokpedfhdaaDoorWApart
import Derived.Test.YtldkhokpedfhdaaDoorWArr
import Derived.Test.YtldkhokpedfhdaaDoorWZeros
import Derived.Test.YtldkhokpedfhdaaDoorWFoot
import Derived.Test.YtldkhokpedfhdaaDoorWKept
import Derived.Test.YtldkhokpedfhdaaDoorWShare
import Derived.Test.YtldkhokpedfhdaaDoorWN
import Derived.Test.YtldkhokpedfhdaaDoorWFootNe
import Derived.Test.YtldkhokpedfhdaaDoorWAt
import Derived.Test.YtldkhokpedfhdaaDoorWEqStruct
import Derived.Test.YtldkhokpedfhdaaDoorWRepsOne
import Derived.Test.YtldkhokpedfhdaaDoorWInv
import Derived.Test.YtldkhokpedfhdaaDoorWInvWords
import Derived.Test.YtldkhokpedfhdaaDoorWGuard
import Derived.Test.YtldkhokpedfhdaaDoorWNEv
import Derived.Test.YtldkhokpedfhdaaDoorWMore
namespace Go.Proofs.YtldkhokpedfhdaaDoor.K
open Go.RowKit Go.Proofs.YtldkhokpedfhdaaDoorW.PrintWords Go.Proofs.YtldkhokpedfhdaaDoorW.PrintLast Go.Proofs.YtldkhokpedfhdaaDoorW.PrintMore
attribute [local go_sem] max2_int min2_int max_two min_two max_three min_three max_four min_four   -- for this text's walks alone
set_option linter.unusedVariables false
set_option linter.unusedSimpArgs false



def errW : Option Int → Value
  | none => .nilIface
  | some c => .iface 0 (.int .i64 c)
theorem errW_none : errW none = .nilIface := rfl
theorem errW_some (c : Int) : errW (some c) = .iface 0 (.int .i64 c) := rfl

theorem info3 : (Tryd.prog.info? 3).map (fun i => (i.zero, i.size, i.bytes)) = some (some (.int .i64 0), 1, 8) := by kernel_rfl
theorem info9 : (Tryd.prog.info? 9).map (fun i => (i.zero, i.size, i.bytes)) = some (some (.string ⟨#[]⟩), 1, 16) := by kernel_rfl
theorem info22 : (Tryd.prog.info? 22).map (fun i => (i.zero, i.size, i.bytes)) = some (some (.int .u16 0), 1, 2) := by kernel_rfl
-- the values' own types

end Go.Proofs.YtldkhokpedfhdaaDoor.K
