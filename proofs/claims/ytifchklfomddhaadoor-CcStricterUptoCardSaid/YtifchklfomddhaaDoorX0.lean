-- Written by a program of this session's (wip/xprint.py), out of the seat's translation.
import Derived.Test.YtifchklfomddhaaDoorProg
import Derived.Below
import Derived.Deep.Draws
import Derived.Deep.AppendLies
import Derived.Maps.AppendAt
import Derived.OwnWalk
import Derived.Laws.BytesArg
import Derived.Laws.MakeOwn
import Derived.Laws.OwnMore
import Derived.Deep.OwnRows
import Derived.Tactics
import Derived.Lib.ConvBytes
import Derived.Laws.Slices
import Derived.WalkKit
import Derived.KernelRfl
import Derived.RowKit3
import Derived.Deep.LoopGhost
import Derived.Deep.QuietTactic
import Derived.BigQuiet
import Derived.WideLaws
import Derived.Deep.DeepCutAuto
import Derived.Deep.CutBlock
import Derived.Deep.RegionHeld3
import Derived.Laws.Rows
import Derived.Lib.AppendStr
import Derived.ArgAppend
import Derived.Laws.IdiomCopy
import Derived.OrdersHeld
import Derived.Laws.BitsLemmas
import Derived.RowKit
import Derived.Test.YtifchklfomddhaaDoorShelf
import Derived.Test.YtifchklfomddhaaDoorOwn
import Derived.Lib.SliceRun
import Derived.Test.YtifchklfomddhaaDoorWWords
import Derived.Test.YtifchklfomddhaaDoorWLast
import Derived.Test.YtifchklfomddhaaDoorWTab
import Derived.Test.YtifchklfomddhaaDoorWFour
import Derived.Test.YtifchklfomddhaaDoorWQPut
import Derived.Test.YtifchklfomddhaaDoorWApart
import Derived.Test.YtifchklfomddhaaDoorWArr
import Derived.Test.YtifchklfomddhaaDoorWZeros
import Derived.Test.YtifchklfomddhaaDoorWFoot
import Derived.Test.YtifchklfomddhaaDoorWKept
import Derived.Test.YtifchklfomddhaaDoorWShare
import Derived.Test.YtifchklfomddhaaDoorWN
import Derived.Test.YtifchklfomddhaaDoorWFootNe
import Derived.Test.YtifchklfomddhaaDoorWAt
import Derived.Test.YtifchklfomddhaaDoorWEqStruct
import Derived.Test.YtifchklfomddhaaDoorWRepsOne
import Derived.Test.YtifchklfomddhaaDoorWInv
import Derived.Test.YtifchklfomddhaaDoorWInvWords
import Derived.Test.YtifchklfomddhaaDoorWGuard
import Derived.Test.YtifchklfomddhaaDoorWNEv
import Derived.Test.YtifchklfomddhaaDoorWMore
namespace Go.Proofs.YtifchklfomddhaaDoor.X
open Go.RowKit Go.Proofs.YtifchklfomddhaaDoorW.PrintWords Go.Proofs.YtifchklfomddhaaDoorW.PrintLast Go.Proofs.YtifchklfomddhaaDoorW.PrintMore
attribute [local go_sem] max2_int min2_int max_two min_two max_three min_three max_four min_four   -- for this text's walks alone
set_option linter.unusedVariables false
set_option linter.unusedSimpArgs false



def errW : Option Int → Value
  | none => .nilIface
  | some c => .iface 0 (.int .i64 c)
theorem errW_none : errW none = .nilIface := rfl
theorem errW_some (c : Int) : errW (some c) = .iface 0 (.int .i64 c) := rfl

theorem info9 : (Tryd.prog.info? 9).map (fun i => (i.zero, i.size, i.bytes)) = some (some (.string ⟨#[]⟩), 1, 16) := by kernel_rfl
-- the values' own types

end Go.Proofs.YtifchklfomddhaaDoor.X
