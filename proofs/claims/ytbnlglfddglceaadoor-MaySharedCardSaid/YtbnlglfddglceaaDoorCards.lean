/-
  DERIVED. GIVEN WITH THE SEED: THE CARDS: each row of YtbnlglfddglceaaDoorRows.lean that lists a variable, with what it lists TIED to the program's text (the seventh form; the later family's looks); each row that meets fmt, with fmt's text TOLD by the authors' own Lean function (tested against real Go, not proved from fmt's source: count such statements apart). THE CARD IS WHAT COUNTS. Prove the row's statement (the work); the ties are given (YtbnlglfddglceaaDoorTie.lean); close each card by the builder's one call (the guide's Derived/Test/ToyasCard.lean, 'card_holds'). Laid BY PROGRAM, IN A SANDBOX (cutbox-door.mjs). By AI agents, Wed Nov 11 2026. No macro, syntax, notation, axiom, sorry.
-/
import Derived.Test.YtbnlglfddglceaaDoorRows
import GoSem.ClaimSeven
namespace Go.Proofs.YtbnlglfddglceaaDoor
namespace Rows

/-- THE TIED CARD OF 'sprlaw20.MayShared'. -/
def maySharedCard : Claim7 := { stood := { row := maySharedRow, standIns := [], harness := (true, "ad41612a1fd0ec86c5600f75a53e14908815c91c0f550db4d789f2a4db54b0c4"), looks := false }, kinds := [], alts := [], laidByText := true, laidKinds := [.data, .pinned], laidTests := true, laidLooks := .later }
def MaySharedCardSaid : Prop := Claim7.holds Tryd.pinned (.plain (OpenSpec.ofChange maySharedSpec)) maySharedCard

/-- THE TIED CARD OF 'sprlaw20.MayLine'. -/
def mayLineCard : Claim7 := { stood := { row := mayLineRow, standIns := [], harness := (true, "ad41612a1fd0ec86c5600f75a53e14908815c91c0f550db4d789f2a4db54b0c4"), looks := false }, kinds := [], alts := [], laidByText := true, laidKinds := [.data, .pinned], laidTests := true, laidLooks := .later }
def MayLineCardSaid : Prop := Claim7.holds Tryd.pinned (.plain (OpenSpec.ofChange mayLineSpec)) mayLineCard

/-- THE TIED CARD OF 'sprlaw20.MayKinds'. -/
def mayKindsCard : Claim7 := { stood := { row := mayKindsRow, standIns := [], harness := (true, "ad41612a1fd0ec86c5600f75a53e14908815c91c0f550db4d789f2a4db54b0c4"), looks := false }, kinds := [], alts := [], laidByText := true, laidKinds := [.data, .pinned], laidTests := true, laidLooks := .later }
def MayKindsCardSaid : Prop := Claim7.holds Tryd.pinned (.plain (OpenSpec.ofChange mayKindsSpec)) mayKindsCard

/-- THE SECOND FORM's CARD OF 'sprlaw20.MayShared'. -/
def maySharedUptoCard : Claim7 := { stood := { row := maySharedUptoRow, standIns := [], harness := (true, "ad41612a1fd0ec86c5600f75a53e14908815c91c0f550db4d789f2a4db54b0c4"), looks := false }, kinds := [], alts := [], laidByText := true, laidKinds := [.data, .pinned], laidTests := true, laidLooks := .later }
def MaySharedUptoCardSaid : Prop := Claim7.holds Tryd.pinned (.plain (OpenSpec.upto maySharedSpec)) maySharedUptoCard

/-- THE SECOND FORM's CARD OF 'sprlaw20.MayLine'. -/
def mayLineUptoCard : Claim7 := { stood := { row := mayLineUptoRow, standIns := [], harness := (true, "ad41612a1fd0ec86c5600f75a53e14908815c91c0f550db4d789f2a4db54b0c4"), looks := false }, kinds := [], alts := [], laidByText := true, laidKinds := [.data, .pinned], laidTests := true, laidLooks := .later }
def MayLineUptoCardSaid : Prop := Claim7.holds Tryd.pinned (.plain (OpenSpec.upto mayLineSpec)) mayLineUptoCard

/-- THE SECOND FORM's CARD OF 'sprlaw20.MayKinds'. -/
def mayKindsUptoCard : Claim7 := { stood := { row := mayKindsUptoRow, standIns := [], harness := (true, "ad41612a1fd0ec86c5600f75a53e14908815c91c0f550db4d789f2a4db54b0c4"), looks := false }, kinds := [], alts := [], laidByText := true, laidKinds := [.data, .pinned], laidTests := true, laidLooks := .later }
def MayKindsUptoCardSaid : Prop := Claim7.holds Tryd.pinned (.plain (OpenSpec.upto mayKindsSpec)) mayKindsUptoCard
end Rows
end Go.Proofs.YtbnlglfddglceaaDoor
