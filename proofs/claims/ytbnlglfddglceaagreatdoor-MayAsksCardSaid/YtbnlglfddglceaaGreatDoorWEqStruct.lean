-- Words printed by the kit's print.sh for this seat, cut to what this claim's texts name (wip/prune.py).
import Derived.Test.YtbnlglfddglceaaGreatDoorWWords
import Derived.Laws.StructEq
namespace Go.Proofs.YtbnlglfddglceaaGreatDoorW.PrintWords
open Go.RowKit
section
variable {P : Program} {d : Nat} {xs ys : Array Value} {f : Field} {fs : List Field} {a b : Value} {r s : Bool} {w : World}
end
end Go.Proofs.YtbnlglfddglceaaGreatDoorW.PrintWords
