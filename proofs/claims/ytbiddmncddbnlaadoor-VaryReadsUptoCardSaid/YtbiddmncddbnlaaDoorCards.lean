/-
  DERIVED. GIVEN WITH THE SEED: THE CARDS: each row of YtbiddmncddbnlaaDoorRows.lean that lists a variable, with what it lists TIED to the program's text (the seventh form; the later family's looks); each row that meets fmt, with fmt's text TOLD by the authors' own Lean function (tested against real Go, not proved from fmt's source: count such statements apart). THE CARD IS WHAT COUNTS. Prove the row's statement (the work); the ties are given (YtbiddmncddbnlaaDoorTie.lean); close each card by the builder's one call (the guide's Derived/Test/ToyasCard.lean, 'card_holds'). Laid BY PROGRAM, IN A SANDBOX (cutbox-door.mjs). By AI agents, Wed Nov 11 2026. No macro, syntax, notation, axiom, sorry.
-/
import Derived.Test.YtbiddmncddbnlaaDoorRows
import GoSem.ClaimSeven
namespace Go.Proofs.YtbiddmncddbnlaaDoor
namespace Rows

/-- THE TIED CARD OF 'sprlaw17.VaryReads'. -/
def varyReadsCard : Claim7 := { stood := { row := varyReadsRow, standIns := [], harness := (true, "19f52ff2164f52807461ece6337bf3d5995e3b593819d398111eea21ba6c7545"), looks := false }, kinds := [], alts := [], laidByText := true, laidKinds := [.data, .pinned], laidTests := true, laidLooks := .later }
def VaryReadsCardSaid : Prop := Claim7.holds Tryd.pinned (.plain (OpenSpec.ofChange varyReadsSpec)) varyReadsCard

/-- THE TIED CARD OF 'sprlaw17.VarySides'. -/
def varySidesCard : Claim7 := { stood := { row := varySidesRow, standIns := [], harness := (true, "19f52ff2164f52807461ece6337bf3d5995e3b593819d398111eea21ba6c7545"), looks := false }, kinds := [], alts := [], laidByText := true, laidKinds := [.data, .pinned], laidTests := true, laidLooks := .later }
def VarySidesCardSaid : Prop := Claim7.holds Tryd.pinned (.plain (OpenSpec.ofChange varySidesSpec)) varySidesCard

/-- THE TIED CARD OF 'sprlaw17.VaryMore'. -/
def varyMoreCard : Claim7 := { stood := { row := varyMoreRow, standIns := [], harness := (true, "19f52ff2164f52807461ece6337bf3d5995e3b593819d398111eea21ba6c7545"), looks := false }, kinds := [], alts := [], laidByText := true, laidKinds := [.data, .pinned], laidTests := true, laidLooks := .later }
def VaryMoreCardSaid : Prop := Claim7.holds Tryd.pinned (.plain (OpenSpec.ofChange varyMoreSpec)) varyMoreCard

/-- THE SECOND FORM's CARD OF 'sprlaw17.VaryReads'. -/
def varyReadsUptoCard : Claim7 := { stood := { row := varyReadsUptoRow, standIns := [], harness := (true, "19f52ff2164f52807461ece6337bf3d5995e3b593819d398111eea21ba6c7545"), looks := false }, kinds := [], alts := [], laidByText := true, laidKinds := [.data, .pinned], laidTests := true, laidLooks := .later }
def VaryReadsUptoCardSaid : Prop := Claim7.holds Tryd.pinned (.plain (OpenSpec.upto varyReadsSpec)) varyReadsUptoCard

/-- THE SECOND FORM's CARD OF 'sprlaw17.VarySides'. -/
def varySidesUptoCard : Claim7 := { stood := { row := varySidesUptoRow, standIns := [], harness := (true, "19f52ff2164f52807461ece6337bf3d5995e3b593819d398111eea21ba6c7545"), looks := false }, kinds := [], alts := [], laidByText := true, laidKinds := [.data, .pinned], laidTests := true, laidLooks := .later }
def VarySidesUptoCardSaid : Prop := Claim7.holds Tryd.pinned (.plain (OpenSpec.upto varySidesSpec)) varySidesUptoCard

/-- THE SECOND FORM's CARD OF 'sprlaw17.VaryMore'. -/
def varyMoreUptoCard : Claim7 := { stood := { row := varyMoreUptoRow, standIns := [], harness := (true, "19f52ff2164f52807461ece6337bf3d5995e3b593819d398111eea21ba6c7545"), looks := false }, kinds := [], alts := [], laidByText := true, laidKinds := [.data, .pinned], laidTests := true, laidLooks := .later }
def VaryMoreUptoCardSaid : Prop := Claim7.holds Tryd.pinned (.plain (OpenSpec.upto varyMoreSpec)) varyMoreUptoCard
end Rows
end Go.Proofs.YtbiddmncddbnlaaDoor
