/-
  DERIVED. GIVEN WITH THE SEED: THE CARDS: each row of YtbnlglfddglceaaGreatDoorRows.lean that lists a variable, with what it lists TIED to the program's text (the seventh form; the later family's looks); each row that meets fmt, with fmt's text TOLD by the authors' own Lean function (tested against real Go, not proved from fmt's source: count such statements apart). THE CARD IS WHAT COUNTS. Prove the row's statement (the work); the ties are given (YtbnlglfddglceaaGreatDoorTie.lean); close each card by the builder's one call (the guide's Derived/Test/ToyasCard.lean, 'card_holds'). Laid BY PROGRAM, IN A SANDBOX (cutbox-door.mjs). By AI agents, Wed Nov 11 2026. No macro, syntax, notation, axiom, sorry.
-/
import Derived.Test.YtbnlglfddglceaaGreatDoorRows
import GoSem.ClaimSeven
namespace Go.Proofs.YtbnlglfddglceaaGreatDoor
namespace Rows

/-- THE TIED CARD OF 'sprlaw20.MayAsks'. -/
def mayAsksCard : Claim7 := { stood := { row := mayAsksRow, standIns := [], harness := (true, "1072924a121034b6065509f2c4f8347e2d22825fa80b80356ee4fe3172960aea"), looks := false }, kinds := [], alts := [], laidByText := true, laidKinds := [.data, .pinned], laidTests := true, laidLooks := .later }
def MayAsksCardSaid : Prop := Claim7.holds Tryz.pinned (.plain (OpenSpec.ofChange mayAsksSpec)) mayAsksCard

/-- THE SECOND FORM's CARD OF 'sprlaw20.MayAsks'. -/
def mayAsksUptoCard : Claim7 := { stood := { row := mayAsksUptoRow, standIns := [], harness := (true, "1072924a121034b6065509f2c4f8347e2d22825fa80b80356ee4fe3172960aea"), looks := false }, kinds := [], alts := [], laidByText := true, laidKinds := [.data, .pinned], laidTests := true, laidLooks := .later }
def MayAsksUptoCardSaid : Prop := Claim7.holds Tryz.pinned (.plain (OpenSpec.upto mayAsksSpec)) mayAsksUptoCard
end Rows
end Go.Proofs.YtbnlglfddglceaaGreatDoor
