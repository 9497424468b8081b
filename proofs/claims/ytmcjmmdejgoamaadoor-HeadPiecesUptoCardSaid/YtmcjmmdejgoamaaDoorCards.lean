/-
  DERIVED. GIVEN WITH THE SEED: THE CARDS: each row of YtmcjmmdejgoamaaDoorRows.lean that lists a variable, with what it lists TIED to the program's text (the seventh form; the later family's looks); each row that meets fmt, with fmt's text TOLD by the authors' own Lean function (tested against real Go, not proved from fmt's source: count such statements apart). THE CARD IS WHAT COUNTS. Prove the row's statement (the work); the ties are given (YtmcjmmdejgoamaaDoorTie.lean); close each card by the builder's one call (the guide's Derived/Test/ToyasCard.lean, 'card_holds'). Laid BY PROGRAM, IN A SANDBOX (cutbox-door.mjs). By AI agents, Wed Nov 11 2026. No macro, syntax, notation, axiom, sorry.
-/
import Derived.Test.YtmcjmmdejgoamaaDoorRows
import GoSem.ClaimSeven
namespace Go.Proofs.YtmcjmmdejgoamaaDoor
namespace Rows

/-- THE TIED CARD OF 'sprlaw13.HeadSplits'. -/
def headSplitsCard : Claim7 := { stood := { row := headSplitsRow, standIns := [], harness := (true, "db335bd037bcff61a0828da0c6351675434ebabf5fde396ca081779c6eb1d425"), looks := false }, kinds := [], alts := [], laidByText := true, laidKinds := [.data, .pinned], laidTests := true, laidLooks := .later }
def HeadSplitsCardSaid : Prop := Claim7.holds Tryd.pinned (.plain (OpenSpec.ofChange headSplitsSpec)) headSplitsCard

/-- THE TIED CARD OF 'sprlaw13.HeadMerges'. -/
def headMergesCard : Claim7 := { stood := { row := headMergesRow, standIns := [], harness := (true, "db335bd037bcff61a0828da0c6351675434ebabf5fde396ca081779c6eb1d425"), looks := false }, kinds := [], alts := [], laidByText := true, laidKinds := [.data, .pinned], laidTests := true, laidLooks := .later }
def HeadMergesCardSaid : Prop := Claim7.holds Tryd.pinned (.plain (OpenSpec.ofChange headMergesSpec)) headMergesCard

/-- THE TIED CARD OF 'sprlaw13.HeadPieces'. -/
def headPiecesCard : Claim7 := { stood := { row := headPiecesRow, standIns := [], harness := (true, "db335bd037bcff61a0828da0c6351675434ebabf5fde396ca081779c6eb1d425"), looks := false }, kinds := [], alts := [], laidByText := true, laidKinds := [.data, .pinned], laidTests := true, laidLooks := .later }
def HeadPiecesCardSaid : Prop := Claim7.holds Tryd.pinned (.plain (OpenSpec.ofChange headPiecesSpec)) headPiecesCard

/-- THE TIED CARD OF 'sprlaw13.HeadWords'. -/
def headWordsCard : Claim7 := { stood := { row := headWordsRow, standIns := [], harness := (true, "db335bd037bcff61a0828da0c6351675434ebabf5fde396ca081779c6eb1d425"), looks := false }, kinds := [], alts := [], laidByText := true, laidKinds := [.data, .pinned], laidTests := true, laidLooks := .later }
def HeadWordsCardSaid : Prop := Claim7.holds Tryd.pinned (.plain (OpenSpec.ofChange headWordsSpec)) headWordsCard

/-- THE TIED CARD OF 'sprlaw13.HeadSets'. -/
def headSetsCard : Claim7 := { stood := { row := headSetsRow, standIns := [], harness := (true, "db335bd037bcff61a0828da0c6351675434ebabf5fde396ca081779c6eb1d425"), looks := false }, kinds := [], alts := [], laidByText := true, laidKinds := [.data, .pinned], laidTests := true, laidLooks := .later }
def HeadSetsCardSaid : Prop := Claim7.holds Tryd.pinned (.plain (OpenSpec.ofChange headSetsSpec)) headSetsCard

/-- THE TIED CARD OF 'sprlaw13.HeadLines'. -/
def headLinesCard : Claim7 := { stood := { row := headLinesRow, standIns := [], harness := (true, "db335bd037bcff61a0828da0c6351675434ebabf5fde396ca081779c6eb1d425"), looks := false }, kinds := [], alts := [], laidByText := true, laidKinds := [.data, .pinned], laidTests := true, laidLooks := .later }
def HeadLinesCardSaid : Prop := Claim7.holds Tryd.pinned (.plain (OpenSpec.ofChange headLinesSpec)) headLinesCard

/-- THE SECOND FORM's CARD OF 'sprlaw13.HeadSplits'. -/
def headSplitsUptoCard : Claim7 := { stood := { row := headSplitsUptoRow, standIns := [], harness := (true, "db335bd037bcff61a0828da0c6351675434ebabf5fde396ca081779c6eb1d425"), looks := false }, kinds := [], alts := [], laidByText := true, laidKinds := [.data, .pinned], laidTests := true, laidLooks := .later }
def HeadSplitsUptoCardSaid : Prop := Claim7.holds Tryd.pinned (.plain (OpenSpec.upto headSplitsSpec)) headSplitsUptoCard

/-- THE SECOND FORM's CARD OF 'sprlaw13.HeadMerges'. -/
def headMergesUptoCard : Claim7 := { stood := { row := headMergesUptoRow, standIns := [], harness := (true, "db335bd037bcff61a0828da0c6351675434ebabf5fde396ca081779c6eb1d425"), looks := false }, kinds := [], alts := [], laidByText := true, laidKinds := [.data, .pinned], laidTests := true, laidLooks := .later }
def HeadMergesUptoCardSaid : Prop := Claim7.holds Tryd.pinned (.plain (OpenSpec.upto headMergesSpec)) headMergesUptoCard

/-- THE SECOND FORM's CARD OF 'sprlaw13.HeadPieces'. -/
def headPiecesUptoCard : Claim7 := { stood := { row := headPiecesUptoRow, standIns := [], harness := (true, "db335bd037bcff61a0828da0c6351675434ebabf5fde396ca081779c6eb1d425"), looks := false }, kinds := [], alts := [], laidByText := true, laidKinds := [.data, .pinned], laidTests := true, laidLooks := .later }
def HeadPiecesUptoCardSaid : Prop := Claim7.holds Tryd.pinned (.plain (OpenSpec.upto headPiecesSpec)) headPiecesUptoCard

/-- THE SECOND FORM's CARD OF 'sprlaw13.HeadWords'. -/
def headWordsUptoCard : Claim7 := { stood := { row := headWordsUptoRow, standIns := [], harness := (true, "db335bd037bcff61a0828da0c6351675434ebabf5fde396ca081779c6eb1d425"), looks := false }, kinds := [], alts := [], laidByText := true, laidKinds := [.data, .pinned], laidTests := true, laidLooks := .later }
def HeadWordsUptoCardSaid : Prop := Claim7.holds Tryd.pinned (.plain (OpenSpec.upto headWordsSpec)) headWordsUptoCard

/-- THE SECOND FORM's CARD OF 'sprlaw13.HeadSets'. -/
def headSetsUptoCard : Claim7 := { stood := { row := headSetsUptoRow, standIns := [], harness := (true, "db335bd037bcff61a0828da0c6351675434ebabf5fde396ca081779c6eb1d425"), looks := false }, kinds := [], alts := [], laidByText := true, laidKinds := [.data, .pinned], laidTests := true, laidLooks := .later }
def HeadSetsUptoCardSaid : Prop := Claim7.holds Tryd.pinned (.plain (OpenSpec.upto headSetsSpec)) headSetsUptoCard

/-- THE SECOND FORM's CARD OF 'sprlaw13.HeadLines'. -/
def headLinesUptoCard : Claim7 := { stood := { row := headLinesUptoRow, standIns := [], harness := (true, "db335bd037bcff61a0828da0c6351675434ebabf5fde396ca081779c6eb1d425"), looks := false }, kinds := [], alts := [], laidByText := true, laidKinds := [.data, .pinned], laidTests := true, laidLooks := .later }
def HeadLinesUptoCardSaid : Prop := Claim7.holds Tryd.pinned (.plain (OpenSpec.upto headLinesSpec)) headLinesUptoCard
end Rows
end Go.Proofs.YtmcjmmdejgoamaaDoor
