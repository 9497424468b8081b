-- Words printed by the kit's print.sh for this seat, cut to what this claim's texts name (wip/prune.py).
import Derived.Test.YtkaegbamkdgjjaaDoorWInv
import Derived.Test.YtkaegbamkdgjjaaDoorWFootNe
namespace Go.Proofs.YtkaegbamkdgjjaaDoorW.PrintWords
open Go.RowKit
end Go.Proofs.YtkaegbamkdgjjaaDoorW.PrintWords
namespace Go.Proofs.YtkaegbamkdgjjaaDoorW.PrintLast
section
variable {ops : Array Oper} {a : Act} {o og : Oper} {g : Nat} {t : Tmp} {u : Bool}
end
end Go.Proofs.YtkaegbamkdgjjaaDoorW.PrintLast
