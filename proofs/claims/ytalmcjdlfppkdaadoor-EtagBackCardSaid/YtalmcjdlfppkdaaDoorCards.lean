/-
  DERIVED. GIVEN WITH THE SEED: THE CARDS: each row of YtalmcjdlfppkdaaDoorRows.lean that lists a variable, with what it lists TIED to the program's text (the seventh form; the later family's looks); each row that meets fmt, with fmt's text TOLD by the authors' own Lean function (tested against real Go, not proved from fmt's source: count such statements apart). THE CARD IS WHAT COUNTS. Prove the row's statement (the work); the ties are given (YtalmcjdlfppkdaaDoorTie.lean); close each card by the builder's one call (the guide's Derived/Test/ToyasCard.lean, 'card_holds'). Laid BY PROGRAM, IN A SANDBOX (cutbox-door.mjs). By AI agents, Wed Nov 11 2026. No macro, syntax, notation, axiom, sorry.
-/
import Derived.Test.YtalmcjdlfppkdaaDoorRows
import GoSem.ClaimSeven
namespace Go.Proofs.YtalmcjdlfppkdaaDoor
namespace Rows

/-- THE TIED CARD OF 'sprlaw16.EtagPairs'. -/
def etagPairsCard : Claim7 := { stood := { row := etagPairsRow, standIns := [], harness := (true, "1db4f81077ff290b3c82e90cf7efeab20baced0a7099cab544808dc9d4711bf4"), looks := false }, kinds := [], alts := [], laidByText := true, laidKinds := [.data, .pinned], laidTests := true, laidLooks := .later }
def EtagPairsCardSaid : Prop := Claim7.holds Tryd.pinned (.plain (OpenSpec.ofChange etagPairsSpec)) etagPairsCard

/-- THE TIED CARD OF 'sprlaw16.EtagBack'. -/
def etagBackCard : Claim7 := { stood := { row := etagBackRow, standIns := [], harness := (true, "1db4f81077ff290b3c82e90cf7efeab20baced0a7099cab544808dc9d4711bf4"), looks := false }, kinds := [], alts := [], laidByText := true, laidKinds := [.data, .pinned], laidTests := true, laidLooks := .later }
def EtagBackCardSaid : Prop := Claim7.holds Tryd.pinned (.plain (OpenSpec.ofChange etagBackSpec)) etagBackCard

/-- THE TIED CARD OF 'sprlaw16.EtagLists'. -/
def etagListsCard : Claim7 := { stood := { row := etagListsRow, standIns := [], harness := (true, "1db4f81077ff290b3c82e90cf7efeab20baced0a7099cab544808dc9d4711bf4"), looks := false }, kinds := [], alts := [], laidByText := true, laidKinds := [.data, .pinned], laidTests := true, laidLooks := .later }
def EtagListsCardSaid : Prop := Claim7.holds Tryd.pinned (.plain (OpenSpec.ofChange etagListsSpec)) etagListsCard

/-- THE TIED CARD OF 'sprlaw16.EtagReads'. -/
def etagReadsCard : Claim7 := { stood := { row := etagReadsRow, standIns := [], harness := (true, "1db4f81077ff290b3c82e90cf7efeab20baced0a7099cab544808dc9d4711bf4"), looks := false }, kinds := [], alts := [], laidByText := true, laidKinds := [.data, .pinned], laidTests := true, laidLooks := .later }
def EtagReadsCardSaid : Prop := Claim7.holds Tryd.pinned (.plain (OpenSpec.ofChange etagReadsSpec)) etagReadsCard

/-- THE SECOND FORM's CARD OF 'sprlaw16.EtagPairs'. -/
def etagPairsUptoCard : Claim7 := { stood := { row := etagPairsUptoRow, standIns := [], harness := (true, "1db4f81077ff290b3c82e90cf7efeab20baced0a7099cab544808dc9d4711bf4"), looks := false }, kinds := [], alts := [], laidByText := true, laidKinds := [.data, .pinned], laidTests := true, laidLooks := .later }
def EtagPairsUptoCardSaid : Prop := Claim7.holds Tryd.pinned (.plain (OpenSpec.upto etagPairsSpec)) etagPairsUptoCard

/-- THE SECOND FORM's CARD OF 'sprlaw16.EtagBack'. -/
def etagBackUptoCard : Claim7 := { stood := { row := etagBackUptoRow, standIns := [], harness := (true, "1db4f81077ff290b3c82e90cf7efeab20baced0a7099cab544808dc9d4711bf4"), looks := false }, kinds := [], alts := [], laidByText := true, laidKinds := [.data, .pinned], laidTests := true, laidLooks := .later }
def EtagBackUptoCardSaid : Prop := Claim7.holds Tryd.pinned (.plain (OpenSpec.upto etagBackSpec)) etagBackUptoCard

/-- THE SECOND FORM's CARD OF 'sprlaw16.EtagLists'. -/
def etagListsUptoCard : Claim7 := { stood := { row := etagListsUptoRow, standIns := [], harness := (true, "1db4f81077ff290b3c82e90cf7efeab20baced0a7099cab544808dc9d4711bf4"), looks := false }, kinds := [], alts := [], laidByText := true, laidKinds := [.data, .pinned], laidTests := true, laidLooks := .later }
def EtagListsUptoCardSaid : Prop := Claim7.holds Tryd.pinned (.plain (OpenSpec.upto etagListsSpec)) etagListsUptoCard

/-- THE SECOND FORM's CARD OF 'sprlaw16.EtagReads'. -/
def etagReadsUptoCard : Claim7 := { stood := { row := etagReadsUptoRow, standIns := [], harness := (true, "1db4f81077ff290b3c82e90cf7efeab20baced0a7099cab544808dc9d4711bf4"), looks := false }, kinds := [], alts := [], laidByText := true, laidKinds := [.data, .pinned], laidTests := true, laidLooks := .later }
def EtagReadsUptoCardSaid : Prop := Claim7.holds Tryd.pinned (.plain (OpenSpec.upto etagReadsSpec)) etagReadsUptoCard
end Rows
end Go.Proofs.YtalmcjdlfppkdaaDoor
