/-
  DERIVED. GIVEN WITH THE SEED: THE CARDS: each row of YtkaegbamkdgjjaaDoorRows.lean that lists a variable, with what it lists TIED to the program's text (the seventh form; the later family's looks); each row that meets fmt, with fmt's text TOLD by the authors' own Lean function (tested against real Go, not proved from fmt's source: count such statements apart). THE CARD IS WHAT COUNTS. Prove the row's statement (the work); the ties are given (YtkaegbamkdgjjaaDoorTie.lean); close each card by the builder's one call (the guide's Derived/Test/ToyasCard.lean, 'card_holds'). Laid BY PROGRAM, IN A SANDBOX (cutbox-door.mjs). By AI agents, Wed Nov 11 2026. No macro, syntax, notation, axiom, sorry.
-/
import Derived.Test.YtkaegbamkdgjjaaDoorRows
import GoSem.ClaimSeven
namespace Go.Proofs.YtkaegbamkdgjjaaDoor
namespace Rows

/-- THE TIED CARD OF 'sprlaw10.FormJoins'. -/
def formJoinsCard : Claim7 := { stood := { row := formJoinsRow, standIns := [], harness := (true, "3759d588db58732a966e7a8b6a5e78c76979402e8222bdeb42f8f674fdf00bb6"), looks := false }, kinds := [], alts := [], laidByText := true, laidKinds := [.data, .pinned], laidTests := true, laidLooks := .later }
def FormJoinsCardSaid : Prop := Claim7.holds Tryd.pinned (.plain (OpenSpec.ofChange formJoinsSpec)) formJoinsCard

/-- THE TIED CARD OF 'sprlaw10.FormBack'. -/
def formBackCard : Claim7 := { stood := { row := formBackRow, standIns := [], harness := (true, "3759d588db58732a966e7a8b6a5e78c76979402e8222bdeb42f8f674fdf00bb6"), looks := false }, kinds := [], alts := [], laidByText := true, laidKinds := [.data, .pinned], laidTests := true, laidLooks := .later }
def FormBackCardSaid : Prop := Claim7.holds Tryd.pinned (.plain (OpenSpec.ofChange formBackSpec)) formBackCard

/-- THE TIED CARD OF 'sprlaw10.FormOne'. -/
def formOneCard : Claim7 := { stood := { row := formOneRow, standIns := [], harness := (true, "3759d588db58732a966e7a8b6a5e78c76979402e8222bdeb42f8f674fdf00bb6"), looks := false }, kinds := [], alts := [], laidByText := true, laidKinds := [.data, .pinned], laidTests := true, laidLooks := .later }
def FormOneCardSaid : Prop := Claim7.holds Tryd.pinned (.plain (OpenSpec.ofChange formOneSpec)) formOneCard

/-- THE TIED CARD OF 'sprlaw10.FormTexts'. -/
def formTextsCard : Claim7 := { stood := { row := formTextsRow, standIns := [], harness := (true, "3759d588db58732a966e7a8b6a5e78c76979402e8222bdeb42f8f674fdf00bb6"), looks := false }, kinds := [], alts := [], laidByText := true, laidKinds := [.data, .pinned], laidTests := true, laidLooks := .later }
def FormTextsCardSaid : Prop := Claim7.holds Tryd.pinned (.plain (OpenSpec.ofChange formTextsSpec)) formTextsCard

/-- THE SECOND FORM's CARD OF 'sprlaw10.FormJoins'. -/
def formJoinsUptoCard : Claim7 := { stood := { row := formJoinsUptoRow, standIns := [], harness := (true, "3759d588db58732a966e7a8b6a5e78c76979402e8222bdeb42f8f674fdf00bb6"), looks := false }, kinds := [], alts := [], laidByText := true, laidKinds := [.data, .pinned], laidTests := true, laidLooks := .later }
def FormJoinsUptoCardSaid : Prop := Claim7.holds Tryd.pinned (.plain (OpenSpec.upto formJoinsSpec)) formJoinsUptoCard

/-- THE SECOND FORM's CARD OF 'sprlaw10.FormBack'. -/
def formBackUptoCard : Claim7 := { stood := { row := formBackUptoRow, standIns := [], harness := (true, "3759d588db58732a966e7a8b6a5e78c76979402e8222bdeb42f8f674fdf00bb6"), looks := false }, kinds := [], alts := [], laidByText := true, laidKinds := [.data, .pinned], laidTests := true, laidLooks := .later }
def FormBackUptoCardSaid : Prop := Claim7.holds Tryd.pinned (.plain (OpenSpec.upto formBackSpec)) formBackUptoCard

/-- THE SECOND FORM's CARD OF 'sprlaw10.FormOne'. -/
def formOneUptoCard : Claim7 := { stood := { row := formOneUptoRow, standIns := [], harness := (true, "3759d588db58732a966e7a8b6a5e78c76979402e8222bdeb42f8f674fdf00bb6"), looks := false }, kinds := [], alts := [], laidByText := true, laidKinds := [.data, .pinned], laidTests := true, laidLooks := .later }
def FormOneUptoCardSaid : Prop := Claim7.holds Tryd.pinned (.plain (OpenSpec.upto formOneSpec)) formOneUptoCard

/-- THE SECOND FORM's CARD OF 'sprlaw10.FormTexts'. -/
def formTextsUptoCard : Claim7 := { stood := { row := formTextsUptoRow, standIns := [], harness := (true, "3759d588db58732a966e7a8b6a5e78c76979402e8222bdeb42f8f674fdf00bb6"), looks := false }, kinds := [], alts := [], laidByText := true, laidKinds := [.data, .pinned], laidTests := true, laidLooks := .later }
def FormTextsUptoCardSaid : Prop := Claim7.holds Tryd.pinned (.plain (OpenSpec.upto formTextsSpec)) formTextsUptoCard
end Rows
end Go.Proofs.YtkaegbamkdgjjaaDoor
