-- Words printed by the kit's print.sh for this seat, cut to what this claim's texts name (wip/prune.py).
import Derived.Test.YtdikhinmlpihdaaDoorWInv
import Derived.Test.YtdikhinmlpihdaaDoorWFootNe
namespace Go.Proofs.YtdikhinmlpihdaaDoorW.PrintWords
open Go.RowKit
end Go.Proofs.YtdikhinmlpihdaaDoorW.PrintWords
namespace Go.Proofs.YtdikhinmlpihdaaDoorW.PrintLast
section
variable {ops : Array Oper} {a : Act} {o og : Oper} {g : Nat} {t : Tmp} {u : Bool}
end
end Go.Proofs.YtdikhinmlpihdaaDoorW.PrintLast
