-- Words printed by the kit's print.sh for this seat, cut to what this claim's texts name (wip/prune.py).
import Derived.Test.YtnkmhgfhdgledaaDoorWInv
import Derived.Test.YtnkmhgfhdgledaaDoorWFootNe
namespace Go.Proofs.YtnkmhgfhdgledaaDoorW.PrintWords
open Go.RowKit
end Go.Proofs.YtnkmhgfhdgledaaDoorW.PrintWords
namespace Go.Proofs.YtnkmhgfhdgledaaDoorW.PrintLast
section
variable {ops : Array Oper} {a : Act} {o og : Oper} {g : Nat} {t : Tmp} {u : Bool}
end
end Go.Proofs.YtnkmhgfhdgledaaDoorW.PrintLast
