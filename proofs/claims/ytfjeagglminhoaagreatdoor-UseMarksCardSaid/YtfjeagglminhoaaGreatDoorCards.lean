/-
  DERIVED. GIVEN WITH THE SEED: THE CARDS: each row of YtfjeagglminhoaaGreatDoorRows.lean that lists a variable, with what it lists TIED to the program's text (the seventh form; the later family's looks); each row that meets fmt, with fmt's text TOLD by the authors' own Lean function (tested against real Go, not proved from fmt's source: count such statements apart). THE CARD IS WHAT COUNTS. Prove the row's statement (the work); the ties are given (YtfjeagglminhoaaGreatDoorTie.lean); close each card by the builder's one call (the guide's Derived/Test/ToyasCard.lean, 'card_holds'). Laid BY PROGRAM, IN A SANDBOX (cutbox-door.mjs). By AI agents, Wed Nov 11 2026. No macro, syntax, notation, axiom, sorry.
-/
import Derived.Test.YtfjeagglminhoaaGreatDoorRows
import GoSem.ClaimSeven
namespace Go.Proofs.YtfjeagglminhoaaGreatDoor
namespace Rows

/-- THE TIED CARD OF 'sprlaw21.UseMarks'. -/
def useMarksCard : Claim7 := { stood := { row := useMarksRow, standIns := [], harness := (true, "611973245b975fc4d53cbd17096e178e6a05655f721ade562facdf77daf0ba9a"), looks := false }, kinds := [], alts := [], laidByText := true, laidKinds := [.data, .pinned], laidTests := true, laidLooks := .later }
def UseMarksCardSaid : Prop := Claim7.holds Tryz.pinned (.plain (OpenSpec.ofChange useMarksSpec)) useMarksCard

/-- THE SECOND FORM's CARD OF 'sprlaw21.UseMarks'. -/
def useMarksUptoCard : Claim7 := { stood := { row := useMarksUptoRow, standIns := [], harness := (true, "611973245b975fc4d53cbd17096e178e6a05655f721ade562facdf77daf0ba9a"), looks := false }, kinds := [], alts := [], laidByText := true, laidKinds := [.data, .pinned], laidTests := true, laidLooks := .later }
def UseMarksUptoCardSaid : Prop := Claim7.holds Tryz.pinned (.plain (OpenSpec.upto useMarksSpec)) useMarksUptoCard
end Rows
end Go.Proofs.YtfjeagglminhoaaGreatDoor
