-- Written by a program of this session's (wip/xprint.py), out of the seat's translation.
import Derived.Test.YtnkmhgfhdgledaaDoorProg
import Derived.Below
import Derived.Deep.Draws
import Derived.Deep.AppendLies
import Derived.Maps.AppendAt
import Derived.OwnWalk
import Derived.Laws.BytesArg
import Derived.Laws.MakeOwn
import Derived.Laws.OwnMore
import Derived.Deep.OwnRows
import Derived.Tactics
import Derived.Lib.ConvBytes
import Derived.Laws.Slices
import Derived.WalkKit
import Derived.KernelRfl
import Derived.RowKit3
import Derived.Deep.LoopGhost
import Derived.Deep.QuietTactic
import Derived.BigQuiet
import Derived.WideLaws
import Derived.Deep.DeepCutAuto
import Derived.Deep.CutBlock
import Derived.Deep.RegionHeld3
import Derived.Laws.Rows
import Derived.Lib.AppendStr
import Derived.ArgAppend
import Derived.Laws.IdiomCopy
import Derived.OrdersHeld
import Derived.Laws.BitsLemmas
import Derived.RowKit
import Derived.Test.YtnkmhgfhdgledaaDoorShelf
import Derived.Test.YtnkmhgfhdgledaaDoorOwn
import Derived.Lib.SliceRun
import Derived.Test.YtnkmhgfhdgledaaDoorWWords
import Derived.Test.YtnkmhgfhdgledaaDoorWLast
import Derived.Test.YtnkmhgfhdgledaaDoorWTab
import Derived.Test.YtnkmhgfhdgledaaDoorWFour
import Derived.Test.YtnkmhgfhdgledaaDoorWQPut
import Derived.Test.YtnkmhgfhdgledaaDoorWApart
import Derived.Test.YtnkmhgfhdgledaaDoorWArr
import Derived.Test.YtnkmhgfhdgledaaDoorWZeros
import Derived.Test.YtnkmhgfhdgledaaDoorWFoot
import Derived.Test.YtnkmhgfhdgledaaDoorWKept
import Derived.Test.YtnkmhgfhdgledaaDoorWShare
import Derived.Test.YtnkmhgfhdgledaaDoorWN
import Derived.Test.YtnkmhgfhdgledaaDoorWFootNe
import Derived.Test.YtnkmhgfhdgledaaDoorWAt
import Derived.Test.YtnkmhgfhdgledaaDoorWEqStruct
import Derived.Test.YtnkmhgfhdgledaaDoorWRepsOne
import Derived.Test.YtnkmhgfhdgledaaDoorWInv
import Derived.Test.YtnkmhgfhdgledaaDoorWInvWords
import Derived.Test.YtnkmhgfhdgledaaDoorWGuard
import Derived.Test.YtnkmhgfhdgledaaDoorWNEv
import Derived.Test.YtnkmhgfhdgledaaDoorWMore
namespace Go.Proofs.YtnkmhgfhdgledaaDoor.R
open Go.RowKit Go.Proofs.YtnkmhgfhdgledaaDoorW.PrintWords Go.Proofs.YtnkmhgfhdgledaaDoorW.PrintLast Go.Proofs.YtnkmhgfhdgledaaDoorW.PrintMore
attribute [local go_sem] max2_int min2_int max_two min_two max_three min_three max_four min_four   -- for this text's walks alone
set_option linter.unusedVariables false
set_option linter.unusedSimpArgs false



def errW : Option Int → Value
  | none => .nilIface
  | some c => .iface 0 (.int .i64 c)
theorem errW_none : errW none = .nilIface := rfl
theorem errW_some (c : Int) : errW (some c) = .iface 0 (.int .i64 c) := rfl

theorem info5 : (Tryd.prog.info? 5).map (fun i => (i.zero, i.size, i.bytes)) = some (some (.int .u8 0), 1, 1) := by kernel_rfl
theorem info9 : (Tryd.prog.info? 9).map (fun i => (i.zero, i.size, i.bytes)) = some (some (.string ⟨#[]⟩), 1, 16) := by kernel_rfl
-- the values' own types

end Go.Proofs.YtnkmhgfhdgledaaDoor.R
