-- Words printed by the kit's print.sh for this seat, cut to what this claim's texts name (wip/prune.py).
import Derived.Test.YtfjeagglminhoaaGreatDoorWInv
import Derived.Test.YtfjeagglminhoaaGreatDoorWFootNe
namespace Go.Proofs.YtfjeagglminhoaaGreatDoorW.PrintWords
open Go.RowKit
end Go.Proofs.YtfjeagglminhoaaGreatDoorW.PrintWords
namespace Go.Proofs.YtfjeagglminhoaaGreatDoorW.PrintLast
section
variable {ops : Array Oper} {a : Act} {o og : Oper} {g : Nat} {t : Tmp} {u : Bool}
end
end Go.Proofs.YtfjeagglminhoaaGreatDoorW.PrintLast
