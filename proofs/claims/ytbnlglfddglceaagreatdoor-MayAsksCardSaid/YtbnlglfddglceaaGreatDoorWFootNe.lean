-- Words printed by the kit's print.sh for this seat, cut to what this claim's texts name (wip/prune.py).
import Derived.Test.YtbnlglfddglceaaGreatDoorWN
namespace Go.Proofs.YtbnlglfddglceaaGreatDoorW.PrintWords
open Go.RowKit
namespace Kd
section
variable {α : Type} {d : Kd α} {W : World} {g n : Nat} {S ok : Nat → Prop} {A : Option Addr} {ad : Addr} {xs : List α}
end
end Kd
end Go.Proofs.YtbnlglfddglceaaGreatDoorW.PrintWords
