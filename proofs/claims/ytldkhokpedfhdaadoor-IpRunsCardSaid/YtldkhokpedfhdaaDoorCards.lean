/-
  DERIVED. GIVEN WITH THE SEED: THE CARDS: each row of YtldkhokpedfhdaaDoorRows.lean that lists a variable, with what it lists TIED to the program's text (the seventh form; the later family's looks); each row that meets fmt, with fmt's text TOLD by the authors' own Lean function (tested against real Go, not proved from fmt's source: count such statements apart). THE CARD IS WHAT COUNTS. Prove the row's statement (the work); the ties are given (YtldkhokpedfhdaaDoorTie.lean); close each card by the builder's one call (the guide's Derived/Test/ToyasCard.lean, 'card_holds'). Laid BY PROGRAM, IN A SANDBOX (cutbox-door.mjs). By AI agents, Wed Nov 11 2026. No macro, syntax, notation, axiom, sorry.
-/
import Derived.Test.YtldkhokpedfhdaaDoorRows
import GoSem.ClaimSeven
namespace Go.Proofs.YtldkhokpedfhdaaDoor
namespace Rows

/-- THE TIED CARD OF 'sprlaw7.IpKeys'. -/
def ipKeysCard : Claim7 := { stood := { row := ipKeysRow, standIns := [], harness := (true, "a4199d472a8b2c924316d324fe4d6e4a3064d56243711fdb8af398cd1cab51bc"), looks := false }, kinds := [], alts := [], laidByText := true, laidKinds := [.data, .data, .data, .data, .pinned], laidTests := true, laidLooks := .later }
def IpKeysCardSaid : Prop := Claim7.holds Tryd.pinned (.plain (OpenSpec.ofChange ipKeysSpec)) ipKeysCard

/-- THE TIED CARD OF 'sprlaw7.IpRuns'. -/
def ipRunsCard : Claim7 := { stood := { row := ipRunsRow, standIns := [], harness := (true, "a4199d472a8b2c924316d324fe4d6e4a3064d56243711fdb8af398cd1cab51bc"), looks := false }, kinds := [], alts := [], laidByText := true, laidKinds := [.data, .data, .data, .data, .pinned], laidTests := true, laidLooks := .later }
def IpRunsCardSaid : Prop := Claim7.holds Tryd.pinned (.plain (OpenSpec.ofChange ipRunsSpec)) ipRunsCard

/-- THE TIED CARD OF 'sprlaw7.IpTexts'. -/
def ipTextsCard : Claim7 := { stood := { row := ipTextsRow, standIns := [], harness := (true, "a4199d472a8b2c924316d324fe4d6e4a3064d56243711fdb8af398cd1cab51bc"), looks := false }, kinds := [], alts := [], laidByText := true, laidKinds := [.data, .data, .data, .data, .pinned], laidTests := true, laidLooks := .later }
def IpTextsCardSaid : Prop := Claim7.holds Tryd.pinned (.plain (OpenSpec.ofChange ipTextsSpec)) ipTextsCard

/-- THE TIED CARD OF 'sprlaw7.IpPrints'. -/
def ipPrintsCard : Claim7 := { stood := { row := ipPrintsRow, standIns := [], harness := (true, "a4199d472a8b2c924316d324fe4d6e4a3064d56243711fdb8af398cd1cab51bc"), looks := false }, kinds := [], alts := [], laidByText := true, laidKinds := [.data, .data, .data, .data, .pinned], laidTests := true, laidLooks := .later }
def IpPrintsCardSaid : Prop := Claim7.holds Tryd.pinned (.plain (OpenSpec.ofChange ipPrintsSpec)) ipPrintsCard

/-- THE TIED CARD OF 'sprlaw7.IpForms'. -/
def ipFormsCard : Claim7 := { stood := { row := ipFormsRow, standIns := [], harness := (true, "a4199d472a8b2c924316d324fe4d6e4a3064d56243711fdb8af398cd1cab51bc"), looks := false }, kinds := [], alts := [], laidByText := true, laidKinds := [.data, .data, .data, .data, .pinned], laidTests := true, laidLooks := .later }
def IpFormsCardSaid : Prop := Claim7.holds Tryd.pinned (.plain (OpenSpec.ofChange ipFormsSpec)) ipFormsCard

/-- THE TIED CARD OF 'sprlaw7.IpBack'. -/
def ipBackCard : Claim7 := { stood := { row := ipBackRow, standIns := [], harness := (true, "a4199d472a8b2c924316d324fe4d6e4a3064d56243711fdb8af398cd1cab51bc"), looks := false }, kinds := [], alts := [], laidByText := true, laidKinds := [.data, .data, .data, .data, .pinned], laidTests := true, laidLooks := .later }
def IpBackCardSaid : Prop := Claim7.holds Tryd.pinned (.plain (OpenSpec.ofChange ipBackSpec)) ipBackCard

/-- THE SECOND FORM's CARD OF 'sprlaw7.IpKeys'. -/
def ipKeysUptoCard : Claim7 := { stood := { row := ipKeysUptoRow, standIns := [], harness := (true, "a4199d472a8b2c924316d324fe4d6e4a3064d56243711fdb8af398cd1cab51bc"), looks := false }, kinds := [], alts := [], laidByText := true, laidKinds := [.data, .data, .data, .data, .pinned], laidTests := true, laidLooks := .later }
def IpKeysUptoCardSaid : Prop := Claim7.holds Tryd.pinned (.plain (OpenSpec.upto ipKeysSpec)) ipKeysUptoCard

/-- THE SECOND FORM's CARD OF 'sprlaw7.IpRuns'. -/
def ipRunsUptoCard : Claim7 := { stood := { row := ipRunsUptoRow, standIns := [], harness := (true, "a4199d472a8b2c924316d324fe4d6e4a3064d56243711fdb8af398cd1cab51bc"), looks := false }, kinds := [], alts := [], laidByText := true, laidKinds := [.data, .data, .data, .data, .pinned], laidTests := true, laidLooks := .later }
def IpRunsUptoCardSaid : Prop := Claim7.holds Tryd.pinned (.plain (OpenSpec.upto ipRunsSpec)) ipRunsUptoCard

/-- THE SECOND FORM's CARD OF 'sprlaw7.IpTexts'. -/
def ipTextsUptoCard : Claim7 := { stood := { row := ipTextsUptoRow, standIns := [], harness := (true, "a4199d472a8b2c924316d324fe4d6e4a3064d56243711fdb8af398cd1cab51bc"), looks := false }, kinds := [], alts := [], laidByText := true, laidKinds := [.data, .data, .data, .data, .pinned], laidTests := true, laidLooks := .later }
def IpTextsUptoCardSaid : Prop := Claim7.holds Tryd.pinned (.plain (OpenSpec.upto ipTextsSpec)) ipTextsUptoCard

/-- THE SECOND FORM's CARD OF 'sprlaw7.IpPrints'. -/
def ipPrintsUptoCard : Claim7 := { stood := { row := ipPrintsUptoRow, standIns := [], harness := (true, "a4199d472a8b2c924316d324fe4d6e4a3064d56243711fdb8af398cd1cab51bc"), looks := false }, kinds := [], alts := [], laidByText := true, laidKinds := [.data, .data, .data, .data, .pinned], laidTests := true, laidLooks := .later }
def IpPrintsUptoCardSaid : Prop := Claim7.holds Tryd.pinned (.plain (OpenSpec.upto ipPrintsSpec)) ipPrintsUptoCard

/-- THE SECOND FORM's CARD OF 'sprlaw7.IpForms'. -/
def ipFormsUptoCard : Claim7 := { stood := { row := ipFormsUptoRow, standIns := [], harness := (true, "a4199d472a8b2c924316d324fe4d6e4a3064d56243711fdb8af398cd1cab51bc"), looks := false }, kinds := [], alts := [], laidByText := true, laidKinds := [.data, .data, .data, .data, .pinned], laidTests := true, laidLooks := .later }
def IpFormsUptoCardSaid : Prop := Claim7.holds Tryd.pinned (.plain (OpenSpec.upto ipFormsSpec)) ipFormsUptoCard

/-- THE SECOND FORM's CARD OF 'sprlaw7.IpBack'. -/
def ipBackUptoCard : Claim7 := { stood := { row := ipBackUptoRow, standIns := [], harness := (true, "a4199d472a8b2c924316d324fe4d6e4a3064d56243711fdb8af398cd1cab51bc"), looks := false }, kinds := [], alts := [], laidByText := true, laidKinds := [.data, .data, .data, .data, .pinned], laidTests := true, laidLooks := .later }
def IpBackUptoCardSaid : Prop := Claim7.holds Tryd.pinned (.plain (OpenSpec.upto ipBackSpec)) ipBackUptoCard
end Rows
end Go.Proofs.YtldkhokpedfhdaaDoor
