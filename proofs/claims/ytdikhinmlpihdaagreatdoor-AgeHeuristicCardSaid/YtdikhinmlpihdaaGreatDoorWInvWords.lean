-- Words printed by the kit's print.sh for this seat, cut to what this claim's texts name (wip/prune.py).
import Derived.Test.YtdikhinmlpihdaaGreatDoorWInv
import Derived.Test.YtdikhinmlpihdaaGreatDoorWFootNe
namespace Go.Proofs.YtdikhinmlpihdaaGreatDoorW.PrintWords
open Go.RowKit
end Go.Proofs.YtdikhinmlpihdaaGreatDoorW.PrintWords
namespace Go.Proofs.YtdikhinmlpihdaaGreatDoorW.PrintLast
section
variable {ops : Array Oper} {a : Act} {o og : Oper} {g : Nat} {t : Tmp} {u : Bool}
end
end Go.Proofs.YtdikhinmlpihdaaGreatDoorW.PrintLast
