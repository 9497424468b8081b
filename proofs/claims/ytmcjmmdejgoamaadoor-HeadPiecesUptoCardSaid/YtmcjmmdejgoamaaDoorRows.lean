/-
  NARROWER THAN 'FOR EVERY INPUT', by the rows' own cells (each row's printed sentence says how): HeadSplits: laid · HeadMerges: laid · HeadPieces: laid · HeadWords: laid · HeadSets: laid · HeadLines: laid.
  DERIVED. THE GIVEN ROWS OF THIS SEAT. 6 by the template 'for every input the law returns true; each argument reads behind the call as it read before'; 0 by the template 'total and deterministic' (their statements: YtmcjmmdejgoamaaDoorTotals.lean).
  GIVEN WITH THE SEED: the statements are not yours to turn. If you find one false, say at which input.
  Laid BY PROGRAM, IN A SANDBOX (cutbox-rows.mjs): the forced cells as the released guide's own fill.sh prints them over the translation 0f479c6ba84cadd0… (all of the seat's roots in one cut). By AI agents, Wed Nov 11 2026. No macro, syntax, notation, axiom, sorry.
-/
import Derived.Test.YtmcjmmdejgoamaaDoorChecked
import GoSem.PinnedTables
import GoSem.Claim
import GoSem.ClaimJoined
import GoSem.ClaimMapViews
import Derived.JoinedTies
import Derived.KernelRfl
namespace Go.Proofs.YtmcjmmdejgoamaaDoor
/- THE CELL 'sum', in the pinned program and in every row, IS THE sha256 OF THE DUMP (.gsa) THAT YtmcjmmdejgoamaaDoorProg.lean LOADS. Nothing in Lean hashes anything: it is a label: what it is worth is what the hold of that sum in a sandbox is worth. -/
noncomputable def Tryd.pinned : Pinned := { name := "ytmcjmmdejgoamaadoor", sum := "0f479c6ba84cadd04067f09fbadb1f3837175fa70b7110d4f650947d353df0f5", checked := Tryd.checked }
namespace Rows
def none {H : Type} : Left H := { results := [], args := [] }

/- WHAT THE LISTED PACKAGE-LEVEL VARIABLES READ AS WHEN THE CALL BEGINS. Each datum BY PROGRAM (the guide's laid-datum.mjs) off the statement by which the dump's own 'gosem.cut.vars' lays the variable. In a bare row this is a premise. The card (YtmcjmmdejgoamaaDoorCards.lean) ties it to the program's text. -/
def laid_unicode_utf8_acceptRanges {H : Type} : DataW H := .agg [.agg [.lit (.int .u8 128), .lit (.int .u8 191)], .agg [.lit (.int .u8 160), .lit (.int .u8 191)], .agg [.lit (.int .u8 128), .lit (.int .u8 159)], .agg [.lit (.int .u8 144), .lit (.int .u8 191)], .agg [.lit (.int .u8 128), .lit (.int .u8 143)], .agg [.lit (.int .u8 0), .lit (.int .u8 0)], .agg [.lit (.int .u8 0), .lit (.int .u8 0)], .agg [.lit (.int .u8 0), .lit (.int .u8 0)], .agg [.lit (.int .u8 0), .lit (.int .u8 0)], .agg [.lit (.int .u8 0), .lit (.int .u8 0)], .agg [.lit (.int .u8 0), .lit (.int .u8 0)], .agg [.lit (.int .u8 0), .lit (.int .u8 0)], .agg [.lit (.int .u8 0), .lit (.int .u8 0)], .agg [.lit (.int .u8 0), .lit (.int .u8 0)], .agg [.lit (.int .u8 0), .lit (.int .u8 0)], .agg [.lit (.int .u8 0), .lit (.int .u8 0)]]
/-- One of Go's own tables, pinned by name: the form's constant. -/
def laid_unicode_utf8_first : DataW Unit := Go.Pinned.utf8First

/-- 'sprlaw13.HeadSplits': WHATEVER THE INPUT: true; the input reads as it did. -/
def headSplitsSpec : ChangeSpec := { name := "headSplits", fn := fun _ => fun
  | [d1, d2, d3, d4] => { results := [.lit (.bool true)], args := [d1, d2, d3, d4] }
  | _ => none }
def headSplitsRow : OpenClaim := { program := "ytmcjmmdejgoamaadoor", sum := "0f479c6ba84cadd04067f09fbadb1f3837175fa70b7110d4f650947d353df0f5", func := "springhouse/sprlaw13.HeadSplits", spec := "headSplits", inPlace := ["internal/bytealg.IndexByteString", "internal/bytealg.IndexString"], unfollowed := true, recurses := true, named := ["unicode/utf8.first", "unicode/utf8.acceptRanges", "internal/bytealg.MaxLen"], apart := false, laid := [("unicode/utf8.acceptRanges", laid_unicode_utf8_acceptRanges), ("unicode/utf8.first", laid_unicode_utf8_first)] }
def HeadSplitsSaid : Prop := headSplitsRow.holds Tryd.pinned (OpenSpec.ofChange headSplitsSpec)

/-- ITS FALSE NEIGHBOUR: 'it returns false'. Refute it at one input. -/
def headSplitsWrong : ChangeSpec := { name := "headSplits", fn := fun _ => fun
  | [d1, d2, d3, d4] => { results := [.lit (.bool false)], args := [d1, d2, d3, d4] }
  | _ => none }
def HeadSplitsWrongFalsely : Prop := headSplitsRow.holds Tryd.pinned (OpenSpec.ofChange headSplitsWrong)

/-- 'sprlaw13.HeadMerges': WHATEVER THE INPUT: true; the input reads as it did. -/
def headMergesSpec : ChangeSpec := { name := "headMerges", fn := fun _ => fun
  | [d1, d2, d3, d4] => { results := [.lit (.bool true)], args := [d1, d2, d3, d4] }
  | _ => none }
def headMergesRow : OpenClaim := { program := "ytmcjmmdejgoamaadoor", sum := "0f479c6ba84cadd04067f09fbadb1f3837175fa70b7110d4f650947d353df0f5", func := "springhouse/sprlaw13.HeadMerges", spec := "headMerges", inPlace := ["internal/bytealg.IndexByteString", "internal/bytealg.IndexString"], unfollowed := true, recurses := true, named := ["unicode/utf8.first", "unicode/utf8.acceptRanges", "internal/bytealg.MaxLen"], apart := false, laid := [("unicode/utf8.acceptRanges", laid_unicode_utf8_acceptRanges), ("unicode/utf8.first", laid_unicode_utf8_first)] }
def HeadMergesSaid : Prop := headMergesRow.holds Tryd.pinned (OpenSpec.ofChange headMergesSpec)

/-- ITS FALSE NEIGHBOUR: 'it returns false'. Refute it at one input. -/
def headMergesWrong : ChangeSpec := { name := "headMerges", fn := fun _ => fun
  | [d1, d2, d3, d4] => { results := [.lit (.bool false)], args := [d1, d2, d3, d4] }
  | _ => none }
def HeadMergesWrongFalsely : Prop := headMergesRow.holds Tryd.pinned (OpenSpec.ofChange headMergesWrong)

/-- 'sprlaw13.HeadPieces': WHATEVER THE INPUT: true; the input reads as it did. -/
def headPiecesSpec : ChangeSpec := { name := "headPieces", fn := fun _ => fun
  | [d] => { results := [.lit (.bool true)], args := [d] }
  | _ => none }
def headPiecesRow : OpenClaim := { program := "ytmcjmmdejgoamaadoor", sum := "0f479c6ba84cadd04067f09fbadb1f3837175fa70b7110d4f650947d353df0f5", func := "springhouse/sprlaw13.HeadPieces", spec := "headPieces", inPlace := ["internal/bytealg.IndexByteString", "internal/bytealg.IndexString"], unfollowed := true, recurses := true, named := ["unicode/utf8.first", "unicode/utf8.acceptRanges", "internal/bytealg.MaxLen"], apart := false, laid := [("unicode/utf8.acceptRanges", laid_unicode_utf8_acceptRanges), ("unicode/utf8.first", laid_unicode_utf8_first)] }
def HeadPiecesSaid : Prop := headPiecesRow.holds Tryd.pinned (OpenSpec.ofChange headPiecesSpec)

/-- ITS FALSE NEIGHBOUR: 'it returns false'. Refute it at one input. -/
def headPiecesWrong : ChangeSpec := { name := "headPieces", fn := fun _ => fun
  | [d] => { results := [.lit (.bool false)], args := [d] }
  | _ => none }
def HeadPiecesWrongFalsely : Prop := headPiecesRow.holds Tryd.pinned (OpenSpec.ofChange headPiecesWrong)

/-- 'sprlaw13.HeadWords': WHATEVER THE INPUT: true; the input reads as it did. -/
def headWordsSpec : ChangeSpec := { name := "headWords", fn := fun _ => fun
  | [d1, d2] => { results := [.lit (.bool true)], args := [d1, d2] }
  | _ => none }
def headWordsRow : OpenClaim := { program := "ytmcjmmdejgoamaadoor", sum := "0f479c6ba84cadd04067f09fbadb1f3837175fa70b7110d4f650947d353df0f5", func := "springhouse/sprlaw13.HeadWords", spec := "headWords", inPlace := ["internal/bytealg.IndexByteString", "internal/bytealg.IndexString"], unfollowed := true, recurses := true, named := ["unicode/utf8.first", "unicode/utf8.acceptRanges", "internal/bytealg.MaxLen"], apart := false, laid := [("unicode/utf8.acceptRanges", laid_unicode_utf8_acceptRanges), ("unicode/utf8.first", laid_unicode_utf8_first)] }
def HeadWordsSaid : Prop := headWordsRow.holds Tryd.pinned (OpenSpec.ofChange headWordsSpec)

/-- ITS FALSE NEIGHBOUR: 'it returns false'. Refute it at one input. -/
def headWordsWrong : ChangeSpec := { name := "headWords", fn := fun _ => fun
  | [d1, d2] => { results := [.lit (.bool false)], args := [d1, d2] }
  | _ => none }
def HeadWordsWrongFalsely : Prop := headWordsRow.holds Tryd.pinned (OpenSpec.ofChange headWordsWrong)

/-- 'sprlaw13.HeadSets': WHATEVER THE INPUT: true; the input reads as it did. -/
def headSetsSpec : ChangeSpec := { name := "headSets", fn := fun _ => fun
  | [d1, d2, d3, d4] => { results := [.lit (.bool true)], args := [d1, d2, d3, d4] }
  | _ => none }
def headSetsRow : OpenClaim := { program := "ytmcjmmdejgoamaadoor", sum := "0f479c6ba84cadd04067f09fbadb1f3837175fa70b7110d4f650947d353df0f5", func := "springhouse/sprlaw13.HeadSets", spec := "headSets", inPlace := ["internal/bytealg.IndexByteString", "internal/bytealg.IndexString", "internal/abi.NoEscape", "internal/bytealg.MakeNoZero"], unfollowed := true, recurses := true, named := ["unicode/utf8.first", "unicode/utf8.acceptRanges", "internal/bytealg.MaxLen"], apart := false, laid := [("unicode/utf8.acceptRanges", laid_unicode_utf8_acceptRanges), ("unicode/utf8.first", laid_unicode_utf8_first)] }
def HeadSetsSaid : Prop := headSetsRow.holds Tryd.pinned (OpenSpec.ofChange headSetsSpec)

/-- ITS FALSE NEIGHBOUR: 'it returns false'. Refute it at one input. -/
def headSetsWrong : ChangeSpec := { name := "headSets", fn := fun _ => fun
  | [d1, d2, d3, d4] => { results := [.lit (.bool false)], args := [d1, d2, d3, d4] }
  | _ => none }
def HeadSetsWrongFalsely : Prop := headSetsRow.holds Tryd.pinned (OpenSpec.ofChange headSetsWrong)

/-- 'sprlaw13.HeadLines': WHATEVER THE INPUT: true; the input reads as it did. -/
def headLinesSpec : ChangeSpec := { name := "headLines", fn := fun _ => fun
  | [d1, d2, d3, d4] => { results := [.lit (.bool true)], args := [d1, d2, d3, d4] }
  | _ => none }
def headLinesRow : OpenClaim := { program := "ytmcjmmdejgoamaadoor", sum := "0f479c6ba84cadd04067f09fbadb1f3837175fa70b7110d4f650947d353df0f5", func := "springhouse/sprlaw13.HeadLines", spec := "headLines", inPlace := ["internal/bytealg.IndexByteString", "internal/bytealg.IndexString", "internal/abi.NoEscape", "internal/bytealg.MakeNoZero"], unfollowed := true, recurses := true, named := ["unicode/utf8.first", "unicode/utf8.acceptRanges", "internal/bytealg.MaxLen"], apart := false, laid := [("unicode/utf8.acceptRanges", laid_unicode_utf8_acceptRanges), ("unicode/utf8.first", laid_unicode_utf8_first)] }
def HeadLinesSaid : Prop := headLinesRow.holds Tryd.pinned (OpenSpec.ofChange headLinesSpec)

/-- ITS FALSE NEIGHBOUR: 'it returns false'. Refute it at one input. -/
def headLinesWrong : ChangeSpec := { name := "headLines", fn := fun _ => fun
  | [d1, d2, d3, d4] => { results := [.lit (.bool false)], args := [d1, d2, d3, d4] }
  | _ => none }
def HeadLinesWrongFalsely : Prop := headLinesRow.holds Tryd.pinned (OpenSpec.ofChange headLinesWrong)

/- THE SECOND FORM. 'bulk': how many values and letters a reading holds, each counted each time it is reached (what is shared counts as often as it is met; a slice's spare places count too). A statement '..UptoSaid' is the law's where the arguments, and the package variables that the reading takes, are together of bulk at most 1048576: NARROWER than '..Said'. Prove '..Said' where nothing that the law and all that it calls make is longer than what came in: it says more and counts as full. Else prove '..UptoSaid'. A law counts once. -/
mutual
def uptoBulk {H : Type} : DataW H → Nat
  | .lit (.string bytes) => bytes.length + 1
  | .lit _ => 1
  | .nil => 1
  | .ptr d => uptoBulk d + 1
  | .slice elems spare => uptoBulkAll elems + uptoBulkAll spare + 1
  | .agg parts => uptoBulkAll parts + 1
  | .iface _ d => uptoBulk d + 1
  | .map entries => uptoBulkEntries entries + 1
  | .held _ => 1
def uptoBulkAll {H : Type} : List (DataW H) → Nat
  | [] => 0
  | d :: r => uptoBulk d + uptoBulkAll r
def uptoBulkEntries {H : Type} : List (Lit × DataW H) → Nat
  | [] => 0
  | x :: r => uptoBulkEntry x + uptoBulkEntries r
def uptoBulkEntry {H : Type} : Lit × DataW H → Nat
  | (.string bytes, d) => bytes.length + uptoBulk d + 1
  | (_, d) => uptoBulk d + 1
 end
def uptoSmall : (H : Type) → List (DataW H) → Bool := fun _ ds => decide (uptoBulkAll ds ≤ 1048576)
def OpenSpec.upto (s : _root_.Go.ChangeSpec) : _root_.Go.OpenSpec := { _root_.Go.OpenSpec.ofChange s with cond := some uptoSmall }

/-- 'sprlaw13.HeadSplits', WHERE WHAT IT READS IS OF BULK AT MOST 1048576: true; the input reads as it did. -/
def headSplitsUptoRow : OpenClaim := { program := "ytmcjmmdejgoamaadoor", sum := "0f479c6ba84cadd04067f09fbadb1f3837175fa70b7110d4f650947d353df0f5", func := "springhouse/sprlaw13.HeadSplits", spec := "headSplits", inPlace := ["internal/bytealg.IndexByteString", "internal/bytealg.IndexString"], unfollowed := true, recurses := true, named := ["unicode/utf8.first", "unicode/utf8.acceptRanges", "internal/bytealg.MaxLen"], apart := false, laid := [("unicode/utf8.acceptRanges", laid_unicode_utf8_acceptRanges), ("unicode/utf8.first", laid_unicode_utf8_first)], narrowed := true }
def HeadSplitsUptoSaid : Prop := headSplitsUptoRow.holds Tryd.pinned (OpenSpec.upto headSplitsSpec)

/-- 'sprlaw13.HeadMerges', WHERE WHAT IT READS IS OF BULK AT MOST 1048576: true; the input reads as it did. -/
def headMergesUptoRow : OpenClaim := { program := "ytmcjmmdejgoamaadoor", sum := "0f479c6ba84cadd04067f09fbadb1f3837175fa70b7110d4f650947d353df0f5", func := "springhouse/sprlaw13.HeadMerges", spec := "headMerges", inPlace := ["internal/bytealg.IndexByteString", "internal/bytealg.IndexString"], unfollowed := true, recurses := true, named := ["unicode/utf8.first", "unicode/utf8.acceptRanges", "internal/bytealg.MaxLen"], apart := false, laid := [("unicode/utf8.acceptRanges", laid_unicode_utf8_acceptRanges), ("unicode/utf8.first", laid_unicode_utf8_first)], narrowed := true }
def HeadMergesUptoSaid : Prop := headMergesUptoRow.holds Tryd.pinned (OpenSpec.upto headMergesSpec)

/-- 'sprlaw13.HeadPieces', WHERE WHAT IT READS IS OF BULK AT MOST 1048576: true; the input reads as it did. -/
def headPiecesUptoRow : OpenClaim := { program := "ytmcjmmdejgoamaadoor", sum := "0f479c6ba84cadd04067f09fbadb1f3837175fa70b7110d4f650947d353df0f5", func := "springhouse/sprlaw13.HeadPieces", spec := "headPieces", inPlace := ["internal/bytealg.IndexByteString", "internal/bytealg.IndexString"], unfollowed := true, recurses := true, named := ["unicode/utf8.first", "unicode/utf8.acceptRanges", "internal/bytealg.MaxLen"], apart := false, laid := [("unicode/utf8.acceptRanges", laid_unicode_utf8_acceptRanges), ("unicode/utf8.first", laid_unicode_utf8_first)], narrowed := true }
def HeadPiecesUptoSaid : Prop := headPiecesUptoRow.holds Tryd.pinned (OpenSpec.upto headPiecesSpec)

/-- 'sprlaw13.HeadWords', WHERE WHAT IT READS IS OF BULK AT MOST 1048576: true; the input reads as it did. -/
def headWordsUptoRow : OpenClaim := { program := "ytmcjmmdejgoamaadoor", sum := "0f479c6ba84cadd04067f09fbadb1f3837175fa70b7110d4f650947d353df0f5", func := "springhouse/sprlaw13.HeadWords", spec := "headWords", inPlace := ["internal/bytealg.IndexByteString", "internal/bytealg.IndexString"], unfollowed := true, recurses := true, named := ["unicode/utf8.first", "unicode/utf8.acceptRanges", "internal/bytealg.MaxLen"], apart := false, laid := [("unicode/utf8.acceptRanges", laid_unicode_utf8_acceptRanges), ("unicode/utf8.first", laid_unicode_utf8_first)], narrowed := true }
def HeadWordsUptoSaid : Prop := headWordsUptoRow.holds Tryd.pinned (OpenSpec.upto headWordsSpec)

/-- 'sprlaw13.HeadSets', WHERE WHAT IT READS IS OF BULK AT MOST 1048576: true; the input reads as it did. -/
def headSetsUptoRow : OpenClaim := { program := "ytmcjmmdejgoamaadoor", sum := "0f479c6ba84cadd04067f09fbadb1f3837175fa70b7110d4f650947d353df0f5", func := "springhouse/sprlaw13.HeadSets", spec := "headSets", inPlace := ["internal/bytealg.IndexByteString", "internal/bytealg.IndexString", "internal/abi.NoEscape", "internal/bytealg.MakeNoZero"], unfollowed := true, recurses := true, named := ["unicode/utf8.first", "unicode/utf8.acceptRanges", "internal/bytealg.MaxLen"], apart := false, laid := [("unicode/utf8.acceptRanges", laid_unicode_utf8_acceptRanges), ("unicode/utf8.first", laid_unicode_utf8_first)], narrowed := true }
def HeadSetsUptoSaid : Prop := headSetsUptoRow.holds Tryd.pinned (OpenSpec.upto headSetsSpec)

/-- 'sprlaw13.HeadLines', WHERE WHAT IT READS IS OF BULK AT MOST 1048576: true; the input reads as it did. -/
def headLinesUptoRow : OpenClaim := { program := "ytmcjmmdejgoamaadoor", sum := "0f479c6ba84cadd04067f09fbadb1f3837175fa70b7110d4f650947d353df0f5", func := "springhouse/sprlaw13.HeadLines", spec := "headLines", inPlace := ["internal/bytealg.IndexByteString", "internal/bytealg.IndexString", "internal/abi.NoEscape", "internal/bytealg.MakeNoZero"], unfollowed := true, recurses := true, named := ["unicode/utf8.first", "unicode/utf8.acceptRanges", "internal/bytealg.MaxLen"], apart := false, laid := [("unicode/utf8.acceptRanges", laid_unicode_utf8_acceptRanges), ("unicode/utf8.first", laid_unicode_utf8_first)], narrowed := true }
def HeadLinesUptoSaid : Prop := headLinesUptoRow.holds Tryd.pinned (OpenSpec.upto headLinesSpec)

end Rows
end Go.Proofs.YtmcjmmdejgoamaaDoor
