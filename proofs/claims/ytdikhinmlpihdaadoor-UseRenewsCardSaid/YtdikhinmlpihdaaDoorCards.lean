/-
  DERIVED. GIVEN WITH THE SEED: THE CARDS: each row of YtdikhinmlpihdaaDoorRows.lean that lists a variable, with what it lists TIED to the program's text (the seventh form; the later family's looks); each row that meets fmt, with fmt's text TOLD by the authors' own Lean function (tested against real Go, not proved from fmt's source: count such statements apart). THE CARD IS WHAT COUNTS. Prove the row's statement (the work); the ties are given (YtdikhinmlpihdaaDoorTie.lean); close each card by the builder's one call (the guide's Derived/Test/ToyasCard.lean, 'card_holds'). Laid BY PROGRAM, IN A SANDBOX (cutbox-door.mjs). By AI agents, Wed Nov 11 2026. No macro, syntax, notation, axiom, sorry.
-/
import Derived.Test.YtdikhinmlpihdaaDoorRows
import GoSem.ClaimSeven
namespace Go.Proofs.YtdikhinmlpihdaaDoor
namespace Rows

/-- THE TIED CARD OF 'sprlaw19.AgeRises'. -/
def ageRisesCard : Claim7 := { stood := { row := ageRisesRow, standIns := [], harness := (true, "2f14da7d8c04c6b7092cea3e3d02b6cd61063d28560cab30533997e0f12e5e0d"), looks := false }, kinds := [], alts := [], laidByText := true, laidKinds := [.data, .pinned], laidTests := true, laidLooks := .later }
def AgeRisesCardSaid : Prop := Claim7.holds Tryd.pinned (.plain (OpenSpec.ofChange ageRisesSpec)) ageRisesCard

/-- THE TIED CARD OF 'sprlaw19.AgeTold'. -/
def ageToldCard : Claim7 := { stood := { row := ageToldRow, standIns := [], harness := (true, "2f14da7d8c04c6b7092cea3e3d02b6cd61063d28560cab30533997e0f12e5e0d"), looks := false }, kinds := [], alts := [], laidByText := true, laidKinds := [.data, .pinned], laidTests := true, laidLooks := .later }
def AgeToldCardSaid : Prop := Claim7.holds Tryd.pinned (.plain (OpenSpec.ofChange ageToldSpec)) ageToldCard

/-- THE TIED CARD OF 'sprlaw21.UseRenews'. -/
def useRenewsCard : Claim7 := { stood := { row := useRenewsRow, standIns := [], harness := (true, "2f14da7d8c04c6b7092cea3e3d02b6cd61063d28560cab30533997e0f12e5e0d"), looks := false }, kinds := [], alts := [], laidByText := true, laidKinds := [.data, .data, .data, .data, .pinned], laidTests := true, laidLooks := .later }
def UseRenewsCardSaid : Prop := Claim7.holds Tryd.pinned (.plain (OpenSpec.ofChange useRenewsSpec)) useRenewsCard

/-- THE SECOND FORM's CARD OF 'sprlaw19.AgeRises'. -/
def ageRisesUptoCard : Claim7 := { stood := { row := ageRisesUptoRow, standIns := [], harness := (true, "2f14da7d8c04c6b7092cea3e3d02b6cd61063d28560cab30533997e0f12e5e0d"), looks := false }, kinds := [], alts := [], laidByText := true, laidKinds := [.data, .pinned], laidTests := true, laidLooks := .later }
def AgeRisesUptoCardSaid : Prop := Claim7.holds Tryd.pinned (.plain (OpenSpec.upto ageRisesSpec)) ageRisesUptoCard

/-- THE SECOND FORM's CARD OF 'sprlaw19.AgeTold'. -/
def ageToldUptoCard : Claim7 := { stood := { row := ageToldUptoRow, standIns := [], harness := (true, "2f14da7d8c04c6b7092cea3e3d02b6cd61063d28560cab30533997e0f12e5e0d"), looks := false }, kinds := [], alts := [], laidByText := true, laidKinds := [.data, .pinned], laidTests := true, laidLooks := .later }
def AgeToldUptoCardSaid : Prop := Claim7.holds Tryd.pinned (.plain (OpenSpec.upto ageToldSpec)) ageToldUptoCard

/-- THE SECOND FORM's CARD OF 'sprlaw21.UseRenews'. -/
def useRenewsUptoCard : Claim7 := { stood := { row := useRenewsUptoRow, standIns := [], harness := (true, "2f14da7d8c04c6b7092cea3e3d02b6cd61063d28560cab30533997e0f12e5e0d"), looks := false }, kinds := [], alts := [], laidByText := true, laidKinds := [.data, .data, .data, .data, .pinned], laidTests := true, laidLooks := .later }
def UseRenewsUptoCardSaid : Prop := Claim7.holds Tryd.pinned (.plain (OpenSpec.upto useRenewsSpec)) useRenewsUptoCard
end Rows
end Go.Proofs.YtdikhinmlpihdaaDoor
