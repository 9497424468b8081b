-- Words printed by the kit's print.sh for this seat, cut to what this claim's texts name (wip/prune.py).
import Derived.Test.YtbnlglfddglceaaGreatDoorWTab
namespace Go.Proofs.YtbnlglfddglceaaGreatDoorW.PrintLast
def up (b : Nat → Bool) (i : Nat) : Nat → Bool := fun j => if j = i then true else b j
section
variable {P : Program} {ops : Array Oper} {Q : Exit → Act → World → Prop} {md : Region.Mode} {T : Bool × List (List Nat × List Nat)} {B : List Nat} {O : List Nat} {b : Nat → Bool} {i j n : Nat}
end
end Go.Proofs.YtbnlglfddglceaaGreatDoorW.PrintLast
