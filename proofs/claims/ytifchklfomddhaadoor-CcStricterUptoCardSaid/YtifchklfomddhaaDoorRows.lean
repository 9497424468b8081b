/-
  NARROWER THAN 'FOR EVERY INPUT', by the rows' own cells (each row's printed sentence says how): CcReads: laid · CcStricter: laid · CcTurns: laid · CcSeconds: laid · CcNames: laid.
  DERIVED. THE GIVEN ROWS OF THIS SEAT. 5 by the template 'for every input the law returns true; each argument reads behind the call as it read before'; 0 by the template 'total and deterministic' (their statements: YtifchklfomddhaaDoorTotals.lean).
  GIVEN WITH THE SEED: the statements are not yours to turn. If you find one false, say at which input.
  Laid BY PROGRAM, IN A SANDBOX (cutbox-rows.mjs): the forced cells as the released guide's own fill.sh prints them over the translation 872caad7b7df610b… (all of the seat's roots in one cut). By AI agents, Wed Nov 11 2026. No macro, syntax, notation, axiom, sorry.
-/
import Derived.Test.YtifchklfomddhaaDoorChecked
import GoSem.PinnedTables
import GoSem.Claim
import GoSem.ClaimJoined
import GoSem.ClaimMapViews
import Derived.JoinedTies
import Derived.KernelRfl
namespace Go.Proofs.YtifchklfomddhaaDoor
/- THE CELL 'sum', in the pinned program and in every row, IS THE sha256 OF THE DUMP (.gsa) THAT YtifchklfomddhaaDoorProg.lean LOADS. Nothing in Lean hashes anything: it is a label: what it is worth is what the hold of that sum in a sandbox is worth. -/
noncomputable def Tryd.pinned : Pinned := { name := "ytifchklfomddhaadoor", sum := "872caad7b7df610b0ccf84ba6ce8d6b2147a4fedf5c830e0fc903d9ecc7fadcc", checked := Tryd.checked }
namespace Rows
def none {H : Type} : Left H := { results := [], args := [] }

/- WHAT THE LISTED PACKAGE-LEVEL VARIABLES READ AS WHEN THE CALL BEGINS. Each datum BY PROGRAM (the guide's laid-datum.mjs) off the statement by which the dump's own 'gosem.cut.vars' lays the variable. In a bare row this is a premise. The card (YtifchklfomddhaaDoorCards.lean) ties it to the program's text. -/
def laid_unicode_utf8_acceptRanges {H : Type} : DataW H := .agg [.agg [.lit (.int .u8 128), .lit (.int .u8 191)], .agg [.lit (.int .u8 160), .lit (.int .u8 191)], .agg [.lit (.int .u8 128), .lit (.int .u8 159)], .agg [.lit (.int .u8 144), .lit (.int .u8 191)], .agg [.lit (.int .u8 128), .lit (.int .u8 143)], .agg [.lit (.int .u8 0), .lit (.int .u8 0)], .agg [.lit (.int .u8 0), .lit (.int .u8 0)], .agg [.lit (.int .u8 0), .lit (.int .u8 0)], .agg [.lit (.int .u8 0), .lit (.int .u8 0)], .agg [.lit (.int .u8 0), .lit (.int .u8 0)], .agg [.lit (.int .u8 0), .lit (.int .u8 0)], .agg [.lit (.int .u8 0), .lit (.int .u8 0)], .agg [.lit (.int .u8 0), .lit (.int .u8 0)], .agg [.lit (.int .u8 0), .lit (.int .u8 0)], .agg [.lit (.int .u8 0), .lit (.int .u8 0)], .agg [.lit (.int .u8 0), .lit (.int .u8 0)]]
/-- One of Go's own tables, pinned by name: the form's constant. -/
def laid_unicode_utf8_first : DataW Unit := Go.Pinned.utf8First

/-- 'sprlaw14.CcReads': WHATEVER THE INPUT: true; the input reads as it did. -/
def ccReadsSpec : ChangeSpec := { name := "ccReads", fn := fun _ => fun
  | [d1, d2] => { results := [.lit (.bool true)], args := [d1, d2] }
  | _ => none }
def ccReadsRow : OpenClaim := { program := "ytifchklfomddhaadoor", sum := "872caad7b7df610b0ccf84ba6ce8d6b2147a4fedf5c830e0fc903d9ecc7fadcc", func := "springhouse/sprlaw14.CcReads", spec := "ccReads", inPlace := ["internal/bytealg.IndexByteString", "internal/bytealg.IndexString"], named := ["unicode/utf8.first", "unicode/utf8.acceptRanges", "internal/bytealg.MaxLen"], apart := false, laid := [("unicode/utf8.acceptRanges", laid_unicode_utf8_acceptRanges), ("unicode/utf8.first", laid_unicode_utf8_first)] }
def CcReadsSaid : Prop := ccReadsRow.holds Tryd.pinned (OpenSpec.ofChange ccReadsSpec)

/-- ITS FALSE NEIGHBOUR: 'it returns false'. Refute it at one input. -/
def ccReadsWrong : ChangeSpec := { name := "ccReads", fn := fun _ => fun
  | [d1, d2] => { results := [.lit (.bool false)], args := [d1, d2] }
  | _ => none }
def CcReadsWrongFalsely : Prop := ccReadsRow.holds Tryd.pinned (OpenSpec.ofChange ccReadsWrong)

/-- 'sprlaw14.CcStricter': WHATEVER THE INPUT: true; the input reads as it did. -/
def ccStricterSpec : ChangeSpec := { name := "ccStricter", fn := fun _ => fun
  | [d1, d2] => { results := [.lit (.bool true)], args := [d1, d2] }
  | _ => none }
def ccStricterRow : OpenClaim := { program := "ytifchklfomddhaadoor", sum := "872caad7b7df610b0ccf84ba6ce8d6b2147a4fedf5c830e0fc903d9ecc7fadcc", func := "springhouse/sprlaw14.CcStricter", spec := "ccStricter", inPlace := ["internal/bytealg.IndexByteString", "internal/bytealg.IndexString"], named := ["unicode/utf8.first", "unicode/utf8.acceptRanges", "internal/bytealg.MaxLen"], apart := false, laid := [("unicode/utf8.acceptRanges", laid_unicode_utf8_acceptRanges), ("unicode/utf8.first", laid_unicode_utf8_first)] }
def CcStricterSaid : Prop := ccStricterRow.holds Tryd.pinned (OpenSpec.ofChange ccStricterSpec)

/-- ITS FALSE NEIGHBOUR: 'it returns false'. Refute it at one input. -/
def ccStricterWrong : ChangeSpec := { name := "ccStricter", fn := fun _ => fun
  | [d1, d2] => { results := [.lit (.bool false)], args := [d1, d2] }
  | _ => none }
def CcStricterWrongFalsely : Prop := ccStricterRow.holds Tryd.pinned (OpenSpec.ofChange ccStricterWrong)

/-- 'sprlaw14.CcTurns': WHATEVER THE INPUT: true; the input reads as it did. -/
def ccTurnsSpec : ChangeSpec := { name := "ccTurns", fn := fun _ => fun
  | [d1, d2] => { results := [.lit (.bool true)], args := [d1, d2] }
  | _ => none }
def ccTurnsRow : OpenClaim := { program := "ytifchklfomddhaadoor", sum := "872caad7b7df610b0ccf84ba6ce8d6b2147a4fedf5c830e0fc903d9ecc7fadcc", func := "springhouse/sprlaw14.CcTurns", spec := "ccTurns", inPlace := ["internal/bytealg.IndexByteString", "internal/bytealg.IndexString"], named := ["unicode/utf8.first", "unicode/utf8.acceptRanges", "internal/bytealg.MaxLen"], apart := false, laid := [("unicode/utf8.acceptRanges", laid_unicode_utf8_acceptRanges), ("unicode/utf8.first", laid_unicode_utf8_first)] }
def CcTurnsSaid : Prop := ccTurnsRow.holds Tryd.pinned (OpenSpec.ofChange ccTurnsSpec)

/-- ITS FALSE NEIGHBOUR: 'it returns false'. Refute it at one input. -/
def ccTurnsWrong : ChangeSpec := { name := "ccTurns", fn := fun _ => fun
  | [d1, d2] => { results := [.lit (.bool false)], args := [d1, d2] }
  | _ => none }
def CcTurnsWrongFalsely : Prop := ccTurnsRow.holds Tryd.pinned (OpenSpec.ofChange ccTurnsWrong)

/-- 'sprlaw14.CcSeconds': WHATEVER THE INPUT: true; the input reads as it did. -/
def ccSecondsSpec : ChangeSpec := { name := "ccSeconds", fn := fun _ => fun
  | [d1, d2] => { results := [.lit (.bool true)], args := [d1, d2] }
  | _ => none }
def ccSecondsRow : OpenClaim := { program := "ytifchklfomddhaadoor", sum := "872caad7b7df610b0ccf84ba6ce8d6b2147a4fedf5c830e0fc903d9ecc7fadcc", func := "springhouse/sprlaw14.CcSeconds", spec := "ccSeconds", inPlace := ["internal/bytealg.IndexByteString", "internal/bytealg.IndexString"], recurses := true, named := ["unicode/utf8.first", "unicode/utf8.acceptRanges", "internal/bytealg.MaxLen"], apart := false, laid := [("unicode/utf8.acceptRanges", laid_unicode_utf8_acceptRanges), ("unicode/utf8.first", laid_unicode_utf8_first)] }
def CcSecondsSaid : Prop := ccSecondsRow.holds Tryd.pinned (OpenSpec.ofChange ccSecondsSpec)

/-- ITS FALSE NEIGHBOUR: 'it returns false'. Refute it at one input. -/
def ccSecondsWrong : ChangeSpec := { name := "ccSeconds", fn := fun _ => fun
  | [d1, d2] => { results := [.lit (.bool false)], args := [d1, d2] }
  | _ => none }
def CcSecondsWrongFalsely : Prop := ccSecondsRow.holds Tryd.pinned (OpenSpec.ofChange ccSecondsWrong)

/-- 'sprlaw14.CcNames': WHATEVER THE INPUT: true; the input reads as it did. -/
def ccNamesSpec : ChangeSpec := { name := "ccNames", fn := fun _ => fun
  | [d1, d2, d3, d4] => { results := [.lit (.bool true)], args := [d1, d2, d3, d4] }
  | _ => none }
def ccNamesRow : OpenClaim := { program := "ytifchklfomddhaadoor", sum := "872caad7b7df610b0ccf84ba6ce8d6b2147a4fedf5c830e0fc903d9ecc7fadcc", func := "springhouse/sprlaw14.CcNames", spec := "ccNames", inPlace := ["internal/bytealg.IndexByteString", "internal/bytealg.IndexString"], named := ["unicode/utf8.first", "unicode/utf8.acceptRanges", "internal/bytealg.MaxLen"], apart := false, laid := [("unicode/utf8.acceptRanges", laid_unicode_utf8_acceptRanges), ("unicode/utf8.first", laid_unicode_utf8_first)] }
def CcNamesSaid : Prop := ccNamesRow.holds Tryd.pinned (OpenSpec.ofChange ccNamesSpec)

/-- ITS FALSE NEIGHBOUR: 'it returns false'. Refute it at one input. -/
def ccNamesWrong : ChangeSpec := { name := "ccNames", fn := fun _ => fun
  | [d1, d2, d3, d4] => { results := [.lit (.bool false)], args := [d1, d2, d3, d4] }
  | _ => none }
def CcNamesWrongFalsely : Prop := ccNamesRow.holds Tryd.pinned (OpenSpec.ofChange ccNamesWrong)

/- THE SECOND FORM. 'bulk': how many values and letters a reading holds, each counted each time it is reached (what is shared counts as often as it is met; a slice's spare places count too). A statement '..UptoSaid' is the law's where the arguments, and the package variables that the reading takes, are together of bulk at most 1048576: NARROWER than '..Said'. Prove '..Said' where nothing that the law and all that it calls make is longer than what came in: it says more and counts as full. Else prove '..UptoSaid'. A law counts once. -/
mutual
def uptoBulk {H : Type} : DataW H → Nat
  | .lit (.string bytes) => bytes.length + 1
  | .lit _ => 1
  | .nil => 1
  | .ptr d => uptoBulk d + 1
  | .slice elems spare => uptoBulkAll elems + uptoBulkAll spare + 1
  | .agg parts => uptoBulkAll parts + 1
  | .iface _ d => uptoBulk d + 1
  | .map entries => uptoBulkEntries entries + 1
  | .held _ => 1
def uptoBulkAll {H : Type} : List (DataW H) → Nat
  | [] => 0
  | d :: r => uptoBulk d + uptoBulkAll r
def uptoBulkEntries {H : Type} : List (Lit × DataW H) → Nat
  | [] => 0
  | x :: r => uptoBulkEntry x + uptoBulkEntries r
def uptoBulkEntry {H : Type} : Lit × DataW H → Nat
  | (.string bytes, d) => bytes.length + uptoBulk d + 1
  | (_, d) => uptoBulk d + 1
 end
def uptoSmall : (H : Type) → List (DataW H) → Bool := fun _ ds => decide (uptoBulkAll ds ≤ 1048576)
def OpenSpec.upto (s : _root_.Go.ChangeSpec) : _root_.Go.OpenSpec := { _root_.Go.OpenSpec.ofChange s with cond := some uptoSmall }

/-- 'sprlaw14.CcReads', WHERE WHAT IT READS IS OF BULK AT MOST 1048576: true; the input reads as it did. -/
def ccReadsUptoRow : OpenClaim := { program := "ytifchklfomddhaadoor", sum := "872caad7b7df610b0ccf84ba6ce8d6b2147a4fedf5c830e0fc903d9ecc7fadcc", func := "springhouse/sprlaw14.CcReads", spec := "ccReads", inPlace := ["internal/bytealg.IndexByteString", "internal/bytealg.IndexString"], named := ["unicode/utf8.first", "unicode/utf8.acceptRanges", "internal/bytealg.MaxLen"], apart := false, laid := [("unicode/utf8.acceptRanges", laid_unicode_utf8_acceptRanges), ("unicode/utf8.first", laid_unicode_utf8_first)], narrowed := true }
def CcReadsUptoSaid : Prop := ccReadsUptoRow.holds Tryd.pinned (OpenSpec.upto ccReadsSpec)

/-- 'sprlaw14.CcStricter', WHERE WHAT IT READS IS OF BULK AT MOST 1048576: true; the input reads as it did. -/
def ccStricterUptoRow : OpenClaim := { program := "ytifchklfomddhaadoor", sum := "872caad7b7df610b0ccf84ba6ce8d6b2147a4fedf5c830e0fc903d9ecc7fadcc", func := "springhouse/sprlaw14.CcStricter", spec := "ccStricter", inPlace := ["internal/bytealg.IndexByteString", "internal/bytealg.IndexString"], named := ["unicode/utf8.first", "unicode/utf8.acceptRanges", "internal/bytealg.MaxLen"], apart := false, laid := [("unicode/utf8.acceptRanges", laid_unicode_utf8_acceptRanges), ("unicode/utf8.first", laid_unicode_utf8_first)], narrowed := true }
def CcStricterUptoSaid : Prop := ccStricterUptoRow.holds Tryd.pinned (OpenSpec.upto ccStricterSpec)

/-- 'sprlaw14.CcTurns', WHERE WHAT IT READS IS OF BULK AT MOST 1048576: true; the input reads as it did. -/
def ccTurnsUptoRow : OpenClaim := { program := "ytifchklfomddhaadoor", sum := "872caad7b7df610b0ccf84ba6ce8d6b2147a4fedf5c830e0fc903d9ecc7fadcc", func := "springhouse/sprlaw14.CcTurns", spec := "ccTurns", inPlace := ["internal/bytealg.IndexByteString", "internal/bytealg.IndexString"], named := ["unicode/utf8.first", "unicode/utf8.acceptRanges", "internal/bytealg.MaxLen"], apart := false, laid := [("unicode/utf8.acceptRanges", laid_unicode_utf8_acceptRanges), ("unicode/utf8.first", laid_unicode_utf8_first)], narrowed := true }
def CcTurnsUptoSaid : Prop := ccTurnsUptoRow.holds Tryd.pinned (OpenSpec.upto ccTurnsSpec)

/-- 'sprlaw14.CcSeconds', WHERE WHAT IT READS IS OF BULK AT MOST 1048576: true; the input reads as it did. -/
def ccSecondsUptoRow : OpenClaim := { program := "ytifchklfomddhaadoor", sum := "872caad7b7df610b0ccf84ba6ce8d6b2147a4fedf5c830e0fc903d9ecc7fadcc", func := "springhouse/sprlaw14.CcSeconds", spec := "ccSeconds", inPlace := ["internal/bytealg.IndexByteString", "internal/bytealg.IndexString"], recurses := true, named := ["unicode/utf8.first", "unicode/utf8.acceptRanges", "internal/bytealg.MaxLen"], apart := false, laid := [("unicode/utf8.acceptRanges", laid_unicode_utf8_acceptRanges), ("unicode/utf8.first", laid_unicode_utf8_first)], narrowed := true }
def CcSecondsUptoSaid : Prop := ccSecondsUptoRow.holds Tryd.pinned (OpenSpec.upto ccSecondsSpec)

/-- 'sprlaw14.CcNames', WHERE WHAT IT READS IS OF BULK AT MOST 1048576: true; the input reads as it did. -/
def ccNamesUptoRow : OpenClaim := { program := "ytifchklfomddhaadoor", sum := "872caad7b7df610b0ccf84ba6ce8d6b2147a4fedf5c830e0fc903d9ecc7fadcc", func := "springhouse/sprlaw14.CcNames", spec := "ccNames", inPlace := ["internal/bytealg.IndexByteString", "internal/bytealg.IndexString"], named := ["unicode/utf8.first", "unicode/utf8.acceptRanges", "internal/bytealg.MaxLen"], apart := false, laid := [("unicode/utf8.acceptRanges", laid_unicode_utf8_acceptRanges), ("unicode/utf8.first", laid_unicode_utf8_first)], narrowed := true }
def CcNamesUptoSaid : Prop := ccNamesUptoRow.holds Tryd.pinned (OpenSpec.upto ccNamesSpec)

end Rows
end Go.Proofs.YtifchklfomddhaaDoor
