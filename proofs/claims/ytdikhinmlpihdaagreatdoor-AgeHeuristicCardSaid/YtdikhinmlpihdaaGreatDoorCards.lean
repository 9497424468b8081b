/-
  DERIVED. GIVEN WITH THE SEED: THE CARDS: each row of YtdikhinmlpihdaaGreatDoorRows.lean that lists a variable, with what it lists TIED to the program's text (the seventh form; the later family's looks); each row that meets fmt, with fmt's text TOLD by the authors' own Lean function (tested against real Go, not proved from fmt's source: count such statements apart). THE CARD IS WHAT COUNTS. Prove the row's statement (the work); the ties are given (YtdikhinmlpihdaaGreatDoorTie.lean); close each card by the builder's one call (the guide's Derived/Test/ToyasCard.lean, 'card_holds'). Laid BY PROGRAM, IN A SANDBOX (cutbox-door.mjs). By AI agents, Wed Nov 11 2026. No macro, syntax, notation, axiom, sorry.
-/
import Derived.Test.YtdikhinmlpihdaaGreatDoorRows
import GoSem.ClaimSeven
namespace Go.Proofs.YtdikhinmlpihdaaGreatDoor
namespace Rows

/-- THE TIED CARD OF 'sprlaw19.AgeAsks'. -/
def ageAsksCard : Claim7 := { stood := { row := ageAsksRow, standIns := [], harness := (true, "5be32c2b9edfed36c1938ecb09130df6a202bd4db131de8f000e1e47ec46bb11"), looks := false }, kinds := [], alts := [], laidByText := true, laidKinds := [.data, .pinned], laidTests := true, laidLooks := .later }
def AgeAsksCardSaid : Prop := Claim7.holds Tryz.pinned (.plain (OpenSpec.ofChange ageAsksSpec)) ageAsksCard

/-- THE TIED CARD OF 'sprlaw19.AgeDates'. -/
def ageDatesCard : Claim7 := { stood := { row := ageDatesRow, standIns := [], harness := (true, "5be32c2b9edfed36c1938ecb09130df6a202bd4db131de8f000e1e47ec46bb11"), looks := false }, kinds := [], alts := [], laidByText := true, laidKinds := [.data, .data, .data, .data, .pinned], laidTests := true, laidLooks := .later }
def AgeDatesCardSaid : Prop := Claim7.holds Tryz.pinned (.plain (OpenSpec.ofChange ageDatesSpec)) ageDatesCard

/-- THE TIED CARD OF 'sprlaw19.AgeHeuristic'. -/
def ageHeuristicCard : Claim7 := { stood := { row := ageHeuristicRow, standIns := [], harness := (true, "5be32c2b9edfed36c1938ecb09130df6a202bd4db131de8f000e1e47ec46bb11"), looks := false }, kinds := [], alts := [], laidByText := true, laidKinds := [.data, .data, .data, .data, .pinned], laidTests := true, laidLooks := .later }
def AgeHeuristicCardSaid : Prop := Claim7.holds Tryz.pinned (.plain (OpenSpec.ofChange ageHeuristicSpec)) ageHeuristicCard

/-- THE SECOND FORM's CARD OF 'sprlaw19.AgeAsks'. -/
def ageAsksUptoCard : Claim7 := { stood := { row := ageAsksUptoRow, standIns := [], harness := (true, "5be32c2b9edfed36c1938ecb09130df6a202bd4db131de8f000e1e47ec46bb11"), looks := false }, kinds := [], alts := [], laidByText := true, laidKinds := [.data, .pinned], laidTests := true, laidLooks := .later }
def AgeAsksUptoCardSaid : Prop := Claim7.holds Tryz.pinned (.plain (OpenSpec.upto ageAsksSpec)) ageAsksUptoCard

/-- THE SECOND FORM's CARD OF 'sprlaw19.AgeDates'. -/
def ageDatesUptoCard : Claim7 := { stood := { row := ageDatesUptoRow, standIns := [], harness := (true, "5be32c2b9edfed36c1938ecb09130df6a202bd4db131de8f000e1e47ec46bb11"), looks := false }, kinds := [], alts := [], laidByText := true, laidKinds := [.data, .data, .data, .data, .pinned], laidTests := true, laidLooks := .later }
def AgeDatesUptoCardSaid : Prop := Claim7.holds Tryz.pinned (.plain (OpenSpec.upto ageDatesSpec)) ageDatesUptoCard

/-- THE SECOND FORM's CARD OF 'sprlaw19.AgeHeuristic'. -/
def ageHeuristicUptoCard : Claim7 := { stood := { row := ageHeuristicUptoRow, standIns := [], harness := (true, "5be32c2b9edfed36c1938ecb09130df6a202bd4db131de8f000e1e47ec46bb11"), looks := false }, kinds := [], alts := [], laidByText := true, laidKinds := [.data, .data, .data, .data, .pinned], laidTests := true, laidLooks := .later }
def AgeHeuristicUptoCardSaid : Prop := Claim7.holds Tryz.pinned (.plain (OpenSpec.upto ageHeuristicSpec)) ageHeuristicUptoCard
end Rows
end Go.Proofs.YtdikhinmlpihdaaGreatDoor
