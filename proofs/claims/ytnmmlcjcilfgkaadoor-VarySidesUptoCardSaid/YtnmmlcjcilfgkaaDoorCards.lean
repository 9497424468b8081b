/-
  DERIVED. GIVEN WITH THE SEED: THE CARDS: each row of YtnmmlcjcilfgkaaDoorRows.lean that lists a variable, with what it lists TIED to the program's text (the seventh form; the later family's looks); each row that meets fmt, with fmt's text TOLD by the authors' own Lean function (tested against real Go, not proved from fmt's source: count such statements apart). THE CARD IS WHAT COUNTS. Prove the row's statement (the work); the ties are given (YtnmmlcjcilfgkaaDoorTie.lean); close each card by the builder's one call (the guide's Derived/Test/ToyasCard.lean, 'card_holds'). Laid BY PROGRAM, IN A SANDBOX (cutbox-door.mjs). By AI agents, Wed Nov 11 2026. No macro, syntax, notation, axiom, sorry.
-/
import Derived.Test.YtnmmlcjcilfgkaaDoorRows
import GoSem.ClaimSeven
namespace Go.Proofs.YtnmmlcjcilfgkaaDoor
namespace Rows

/-- THE TIED CARD OF 'sprlaw17.VarySides'. -/
def varySidesCard : Claim7 := { stood := { row := varySidesRow, standIns := [], harness := (true, "81f4282e6b3b4cf77355611d4aa686aa65690ef761fb011177d0b657167898d1"), looks := false }, kinds := [], alts := [], laidByText := true, laidKinds := [.data, .pinned], laidTests := true, laidLooks := .later }
def VarySidesCardSaid : Prop := Claim7.holds Tryd.pinned (.plain (OpenSpec.ofChange varySidesSpec)) varySidesCard

/-- THE SECOND FORM's CARD OF 'sprlaw17.VarySides'. -/
def varySidesUptoCard : Claim7 := { stood := { row := varySidesUptoRow, standIns := [], harness := (true, "81f4282e6b3b4cf77355611d4aa686aa65690ef761fb011177d0b657167898d1"), looks := false }, kinds := [], alts := [], laidByText := true, laidKinds := [.data, .pinned], laidTests := true, laidLooks := .later }
def VarySidesUptoCardSaid : Prop := Claim7.holds Tryd.pinned (.plain (OpenSpec.upto varySidesSpec)) varySidesUptoCard
end Rows
end Go.Proofs.YtnmmlcjcilfgkaaDoor
