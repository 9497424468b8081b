-- Words printed by the kit's print.sh for this seat, cut to what this claim's texts name (wip/prune.py).
import Derived.Test.YtbnlglfddglceaaGreatDoorWInv
import Derived.Test.YtbnlglfddglceaaGreatDoorWFootNe
namespace Go.Proofs.YtbnlglfddglceaaGreatDoorW.PrintWords
open Go.RowKit
end Go.Proofs.YtbnlglfddglceaaGreatDoorW.PrintWords
namespace Go.Proofs.YtbnlglfddglceaaGreatDoorW.PrintLast
section
variable {ops : Array Oper} {a : Act} {o og : Oper} {g : Nat} {t : Tmp} {u : Bool}
end
end Go.Proofs.YtbnlglfddglceaaGreatDoorW.PrintLast
