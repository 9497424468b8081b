/-
  DERIVED. GIVEN WITH THE SEED: THE CARDS: each row of YtkocfhjkhcmakaaDoorRows.lean that lists a variable, with what it lists TIED to the program's text (the seventh form; the later family's looks); each row that meets fmt, with fmt's text TOLD by the authors' own Lean function (tested against real Go, not proved from fmt's source: count such statements apart). THE CARD IS WHAT COUNTS. Prove the row's statement (the work); the ties are given (YtkocfhjkhcmakaaDoorTie.lean); close each card by the builder's one call (the guide's Derived/Test/ToyasCard.lean, 'card_holds'). Laid BY PROGRAM, IN A SANDBOX (cutbox-door.mjs). By AI agents, Wed Nov 11 2026. No macro, syntax, notation, axiom, sorry.
-/
import Derived.Test.YtkocfhjkhcmakaaDoorRows
import GoSem.ClaimSeven
namespace Go.Proofs.YtkocfhjkhcmakaaDoor
namespace Rows

/-- THE TIED CARD OF 'sprlaw16.EtagLists'. -/
def etagListsCard : Claim7 := { stood := { row := etagListsRow, standIns := [], harness := (true, "9dcac31de5bd1d94373d790cb4f339186dd744246fdfd7482ef9f4668d050541"), looks := false }, kinds := [], alts := [], laidByText := true, laidKinds := [.data, .pinned], laidTests := true, laidLooks := .later }
def EtagListsCardSaid : Prop := Claim7.holds Tryd.pinned (.plain (OpenSpec.ofChange etagListsSpec)) etagListsCard

/-- THE SECOND FORM's CARD OF 'sprlaw16.EtagLists'. -/
def etagListsUptoCard : Claim7 := { stood := { row := etagListsUptoRow, standIns := [], harness := (true, "9dcac31de5bd1d94373d790cb4f339186dd744246fdfd7482ef9f4668d050541"), looks := false }, kinds := [], alts := [], laidByText := true, laidKinds := [.data, .pinned], laidTests := true, laidLooks := .later }
def EtagListsUptoCardSaid : Prop := Claim7.holds Tryd.pinned (.plain (OpenSpec.upto etagListsSpec)) etagListsUptoCard
end Rows
end Go.Proofs.YtkocfhjkhcmakaaDoor
