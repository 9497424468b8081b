-- Words printed by the kit's print.sh for this seat, cut to what this claim's texts name (wip/prune.py).
import Derived.Test.YtbnlglfddglceaaDoorWInv
import Derived.Test.YtbnlglfddglceaaDoorWFootNe
namespace Go.Proofs.YtbnlglfddglceaaDoorW.PrintWords
open Go.RowKit
end Go.Proofs.YtbnlglfddglceaaDoorW.PrintWords
namespace Go.Proofs.YtbnlglfddglceaaDoorW.PrintLast
section
variable {ops : Array Oper} {a : Act} {o og : Oper} {g : Nat} {t : Tmp} {u : Bool}
end
end Go.Proofs.YtbnlglfddglceaaDoorW.PrintLast
