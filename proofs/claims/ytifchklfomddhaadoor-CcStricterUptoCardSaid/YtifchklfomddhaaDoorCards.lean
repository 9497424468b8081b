/-
  DERIVED. GIVEN WITH THE SEED: THE CARDS: each row of YtifchklfomddhaaDoorRows.lean that lists a variable, with what it lists TIED to the program's text (the seventh form; the later family's looks); each row that meets fmt, with fmt's text TOLD by the authors' own Lean function (tested against real Go, not proved from fmt's source: count such statements apart). THE CARD IS WHAT COUNTS. Prove the row's statement (the work); the ties are given (YtifchklfomddhaaDoorTie.lean); close each card by the builder's one call (the guide's Derived/Test/ToyasCard.lean, 'card_holds'). Laid BY PROGRAM, IN A SANDBOX (cutbox-door.mjs). By AI agents, Wed Nov 11 2026. No macro, syntax, notation, axiom, sorry.
-/
import Derived.Test.YtifchklfomddhaaDoorRows
import GoSem.ClaimSeven
namespace Go.Proofs.YtifchklfomddhaaDoor
namespace Rows

/-- THE TIED CARD OF 'sprlaw14.CcReads'. -/
def ccReadsCard : Claim7 := { stood := { row := ccReadsRow, standIns := [], harness := (true, "36465637f25e3bdcaddb39726cbeb79c725bc1ec31dab47f287f46dc3bbdbec5"), looks := false }, kinds := [], alts := [], laidByText := true, laidKinds := [.data, .pinned], laidTests := true, laidLooks := .later }
def CcReadsCardSaid : Prop := Claim7.holds Tryd.pinned (.plain (OpenSpec.ofChange ccReadsSpec)) ccReadsCard

/-- THE TIED CARD OF 'sprlaw14.CcStricter'. -/
def ccStricterCard : Claim7 := { stood := { row := ccStricterRow, standIns := [], harness := (true, "36465637f25e3bdcaddb39726cbeb79c725bc1ec31dab47f287f46dc3bbdbec5"), looks := false }, kinds := [], alts := [], laidByText := true, laidKinds := [.data, .pinned], laidTests := true, laidLooks := .later }
def CcStricterCardSaid : Prop := Claim7.holds Tryd.pinned (.plain (OpenSpec.ofChange ccStricterSpec)) ccStricterCard

/-- THE TIED CARD OF 'sprlaw14.CcTurns'. -/
def ccTurnsCard : Claim7 := { stood := { row := ccTurnsRow, standIns := [], harness := (true, "36465637f25e3bdcaddb39726cbeb79c725bc1ec31dab47f287f46dc3bbdbec5"), looks := false }, kinds := [], alts := [], laidByText := true, laidKinds := [.data, .pinned], laidTests := true, laidLooks := .later }
def CcTurnsCardSaid : Prop := Claim7.holds Tryd.pinned (.plain (OpenSpec.ofChange ccTurnsSpec)) ccTurnsCard

/-- THE TIED CARD OF 'sprlaw14.CcSeconds'. -/
def ccSecondsCard : Claim7 := { stood := { row := ccSecondsRow, standIns := [], harness := (true, "36465637f25e3bdcaddb39726cbeb79c725bc1ec31dab47f287f46dc3bbdbec5"), looks := false }, kinds := [], alts := [], laidByText := true, laidKinds := [.data, .pinned], laidTests := true, laidLooks := .later }
def CcSecondsCardSaid : Prop := Claim7.holds Tryd.pinned (.plain (OpenSpec.ofChange ccSecondsSpec)) ccSecondsCard

/-- THE TIED CARD OF 'sprlaw14.CcNames'. -/
def ccNamesCard : Claim7 := { stood := { row := ccNamesRow, standIns := [], harness := (true, "36465637f25e3bdcaddb39726cbeb79c725bc1ec31dab47f287f46dc3bbdbec5"), looks := false }, kinds := [], alts := [], laidByText := true, laidKinds := [.data, .pinned], laidTests := true, laidLooks := .later }
def CcNamesCardSaid : Prop := Claim7.holds Tryd.pinned (.plain (OpenSpec.ofChange ccNamesSpec)) ccNamesCard

/-- THE SECOND FORM's CARD OF 'sprlaw14.CcReads'. -/
def ccReadsUptoCard : Claim7 := { stood := { row := ccReadsUptoRow, standIns := [], harness := (true, "36465637f25e3bdcaddb39726cbeb79c725bc1ec31dab47f287f46dc3bbdbec5"), looks := false }, kinds := [], alts := [], laidByText := true, laidKinds := [.data, .pinned], laidTests := true, laidLooks := .later }
def CcReadsUptoCardSaid : Prop := Claim7.holds Tryd.pinned (.plain (OpenSpec.upto ccReadsSpec)) ccReadsUptoCard

/-- THE SECOND FORM's CARD OF 'sprlaw14.CcStricter'. -/
def ccStricterUptoCard : Claim7 := { stood := { row := ccStricterUptoRow, standIns := [], harness := (true, "36465637f25e3bdcaddb39726cbeb79c725bc1ec31dab47f287f46dc3bbdbec5"), looks := false }, kinds := [], alts := [], laidByText := true, laidKinds := [.data, .pinned], laidTests := true, laidLooks := .later }
def CcStricterUptoCardSaid : Prop := Claim7.holds Tryd.pinned (.plain (OpenSpec.upto ccStricterSpec)) ccStricterUptoCard

/-- THE SECOND FORM's CARD OF 'sprlaw14.CcTurns'. -/
def ccTurnsUptoCard : Claim7 := { stood := { row := ccTurnsUptoRow, standIns := [], harness := (true, "36465637f25e3bdcaddb39726cbeb79c725bc1ec31dab47f287f46dc3bbdbec5"), looks := false }, kinds := [], alts := [], laidByText := true, laidKinds := [.data, .pinned], laidTests := true, laidLooks := .later }
def CcTurnsUptoCardSaid : Prop := Claim7.holds Tryd.pinned (.plain (OpenSpec.upto ccTurnsSpec)) ccTurnsUptoCard

/-- THE SECOND FORM's CARD OF 'sprlaw14.CcSeconds'. -/
def ccSecondsUptoCard : Claim7 := { stood := { row := ccSecondsUptoRow, standIns := [], harness := (true, "36465637f25e3bdcaddb39726cbeb79c725bc1ec31dab47f287f46dc3bbdbec5"), looks := false }, kinds := [], alts := [], laidByText := true, laidKinds := [.data, .pinned], laidTests := true, laidLooks := .later }
def CcSecondsUptoCardSaid : Prop := Claim7.holds Tryd.pinned (.plain (OpenSpec.upto ccSecondsSpec)) ccSecondsUptoCard

/-- THE SECOND FORM's CARD OF 'sprlaw14.CcNames'. -/
def ccNamesUptoCard : Claim7 := { stood := { row := ccNamesUptoRow, standIns := [], harness := (true, "36465637f25e3bdcaddb39726cbeb79c725bc1ec31dab47f287f46dc3bbdbec5"), looks := false }, kinds := [], alts := [], laidByText := true, laidKinds := [.data, .pinned], laidTests := true, laidLooks := .later }
def CcNamesUptoCardSaid : Prop := Claim7.holds Tryd.pinned (.plain (OpenSpec.upto ccNamesSpec)) ccNamesUptoCard
end Rows
end Go.Proofs.YtifchklfomddhaaDoor
