/-
  DERIVED. GIVEN WITH THE SEED: THE CARDS: each row of YtlkbnbkabpodoaaDoorRows.lean that lists a variable, with what it lists TIED to the program's text (the seventh form; the later family's looks); each row that meets fmt, with fmt's text TOLD by the authors' own Lean function (tested against real Go, not proved from fmt's source: count such statements apart). THE CARD IS WHAT COUNTS. Prove the row's statement (the work); the ties are given (YtlkbnbkabpodoaaDoorTie.lean); close each card by the builder's one call (the guide's Derived/Test/ToyasCard.lean, 'card_holds'). Laid BY PROGRAM, IN A SANDBOX (cutbox-door.mjs). By AI agents, Wed Nov 11 2026. No macro, syntax, notation, axiom, sorry.
-/
import Derived.Test.YtlkbnbkabpodoaaDoorRows
import GoSem.ClaimSeven
namespace Go.Proofs.YtlkbnbkabpodoaaDoor
namespace Rows

/-- THE TIED CARD OF 'sprlaw21.UseYounger'. -/
def useYoungerCard : Claim7 := { stood := { row := useYoungerRow, standIns := [], harness := (true, "2a08357bd24eaeb1b5aa9763ad5f7ad3ace734d058199ba6e619b9eec5e440ba"), looks := false }, kinds := [], alts := [], laidByText := true, laidKinds := [.data, .pinned], laidTests := true, laidLooks := .later }
def UseYoungerCardSaid : Prop := Claim7.holds Tryd.pinned (.plain (OpenSpec.ofChange useYoungerSpec)) useYoungerCard

/-- THE TIED CARD OF 'sprlaw21.UseNever'. -/
def useNeverCard : Claim7 := { stood := { row := useNeverRow, standIns := [], harness := (true, "2a08357bd24eaeb1b5aa9763ad5f7ad3ace734d058199ba6e619b9eec5e440ba"), looks := false }, kinds := [], alts := [], laidByText := true, laidKinds := [.data, .pinned], laidTests := true, laidLooks := .later }
def UseNeverCardSaid : Prop := Claim7.holds Tryd.pinned (.plain (OpenSpec.ofChange useNeverSpec)) useNeverCard

/-- THE TIED CARD OF 'sprlaw21.UseDecides'. -/
def useDecidesCard : Claim7 := { stood := { row := useDecidesRow, standIns := [], harness := (true, "2a08357bd24eaeb1b5aa9763ad5f7ad3ace734d058199ba6e619b9eec5e440ba"), looks := false }, kinds := [], alts := [], laidByText := true, laidKinds := [.data, .pinned], laidTests := true, laidLooks := .later }
def UseDecidesCardSaid : Prop := Claim7.holds Tryd.pinned (.plain (OpenSpec.ofChange useDecidesSpec)) useDecidesCard

/-- THE SECOND FORM's CARD OF 'sprlaw21.UseYounger'. -/
def useYoungerUptoCard : Claim7 := { stood := { row := useYoungerUptoRow, standIns := [], harness := (true, "2a08357bd24eaeb1b5aa9763ad5f7ad3ace734d058199ba6e619b9eec5e440ba"), looks := false }, kinds := [], alts := [], laidByText := true, laidKinds := [.data, .pinned], laidTests := true, laidLooks := .later }
def UseYoungerUptoCardSaid : Prop := Claim7.holds Tryd.pinned (.plain (OpenSpec.upto useYoungerSpec)) useYoungerUptoCard

/-- THE SECOND FORM's CARD OF 'sprlaw21.UseNever'. -/
def useNeverUptoCard : Claim7 := { stood := { row := useNeverUptoRow, standIns := [], harness := (true, "2a08357bd24eaeb1b5aa9763ad5f7ad3ace734d058199ba6e619b9eec5e440ba"), looks := false }, kinds := [], alts := [], laidByText := true, laidKinds := [.data, .pinned], laidTests := true, laidLooks := .later }
def UseNeverUptoCardSaid : Prop := Claim7.holds Tryd.pinned (.plain (OpenSpec.upto useNeverSpec)) useNeverUptoCard

/-- THE SECOND FORM's CARD OF 'sprlaw21.UseDecides'. -/
def useDecidesUptoCard : Claim7 := { stood := { row := useDecidesUptoRow, standIns := [], harness := (true, "2a08357bd24eaeb1b5aa9763ad5f7ad3ace734d058199ba6e619b9eec5e440ba"), looks := false }, kinds := [], alts := [], laidByText := true, laidKinds := [.data, .pinned], laidTests := true, laidLooks := .later }
def UseDecidesUptoCardSaid : Prop := Claim7.holds Tryd.pinned (.plain (OpenSpec.upto useDecidesSpec)) useDecidesUptoCard
end Rows
end Go.Proofs.YtlkbnbkabpodoaaDoor
