/-
  No cell of these rows narrows 'for every input' (looked for: loops, veiled, ifaces, maps, wideKeys, modest, calm, conditions, laid).
  DERIVED. THE GIVEN ROWS OF THIS SEAT. 5 by the template 'for every input the law returns true; each argument reads behind the call as it read before'; 0 by the template 'total and deterministic' (their statements: YtgpomfldlibldaaTotals.lean).
  GIVEN WITH THE SEED: the statements are not yours to turn. If you find one false, say at which input.
  Laid BY PROGRAM, IN A SANDBOX (cutbox-rows.mjs): the forced cells as the released guide's own fill.sh prints them over the translation bb6e3b8be79d519d… (all of the seat's roots in one cut). By AI agents, Wed Nov 11 2026. No macro, syntax, notation, axiom, sorry.
-/
import Derived.Test.YtgpomfldlibldaaChecked
import GoSem.Claim
import GoSem.ClaimJoined
import GoSem.ClaimMapViews
import Derived.JoinedTies
import Derived.KernelRfl
namespace Go.Proofs.Ytgpomfldlibldaa
/- THE CELL 'sum', in the pinned program and in every row, IS THE sha256 OF THE DUMP (.gsa) THAT YtgpomfldlibldaaProg.lean LOADS. Nothing in Lean hashes anything: it is a label: what it is worth is what the hold of that sum in a sandbox is worth. -/
noncomputable def Try.pinned : Pinned := { name := "ytgpomfldlibldaa", sum := "bb6e3b8be79d519db02560f13f262aebc4ce0026aaa4bcd9a4019967cbcbd93b", checked := Try.checked }
namespace Rows
def none {H : Type} : Left H := { results := [], args := [] }

/-- 'sprlaw2.UtfSigns': WHATEVER THE INPUT: true; the input reads as it did. -/
def utfSignsSpec : ChangeSpec := { name := "utfSigns", fn := fun _ => fun
  | [d] => { results := [.lit (.bool true)], args := [d] }
  | _ => none }
def utfSignsRow : OpenClaim := { program := "ytgpomfldlibldaa", sum := "bb6e3b8be79d519db02560f13f262aebc4ce0026aaa4bcd9a4019967cbcbd93b", func := "springhouse/sprlaw2.UtfSigns", spec := "utfSigns", apart := false }
def UtfSignsSaid : Prop := utfSignsRow.holds Try.pinned (OpenSpec.ofChange utfSignsSpec)

/-- ITS FALSE NEIGHBOUR: 'it returns false'. Refute it at one input. -/
def utfSignsWrong : ChangeSpec := { name := "utfSigns", fn := fun _ => fun
  | [d] => { results := [.lit (.bool false)], args := [d] }
  | _ => none }
def UtfSignsWrongFalsely : Prop := utfSignsRow.holds Try.pinned (OpenSpec.ofChange utfSignsWrong)

/-- 'sprlaw2.UtfBack': WHATEVER THE INPUT: true; the input reads as it did. -/
def utfBackSpec : ChangeSpec := { name := "utfBack", fn := fun _ => fun
  | [d1, d2] => { results := [.lit (.bool true)], args := [d1, d2] }
  | _ => none }
def utfBackRow : OpenClaim := { program := "ytgpomfldlibldaa", sum := "bb6e3b8be79d519db02560f13f262aebc4ce0026aaa4bcd9a4019967cbcbd93b", func := "springhouse/sprlaw2.UtfBack", spec := "utfBack", apart := false }
def UtfBackSaid : Prop := utfBackRow.holds Try.pinned (OpenSpec.ofChange utfBackSpec)

/-- ITS FALSE NEIGHBOUR: 'it returns false'. Refute it at one input. -/
def utfBackWrong : ChangeSpec := { name := "utfBack", fn := fun _ => fun
  | [d1, d2] => { results := [.lit (.bool false)], args := [d1, d2] }
  | _ => none }
def UtfBackWrongFalsely : Prop := utfBackRow.holds Try.pinned (OpenSpec.ofChange utfBackWrong)

/-- 'sprlaw2.UtfJoins': WHATEVER THE INPUT: true; the input reads as it did. -/
def utfJoinsSpec : ChangeSpec := { name := "utfJoins", fn := fun _ => fun
  | [d1, d2] => { results := [.lit (.bool true)], args := [d1, d2] }
  | _ => none }
def utfJoinsRow : OpenClaim := { program := "ytgpomfldlibldaa", sum := "bb6e3b8be79d519db02560f13f262aebc4ce0026aaa4bcd9a4019967cbcbd93b", func := "springhouse/sprlaw2.UtfJoins", spec := "utfJoins", apart := false }
def UtfJoinsSaid : Prop := utfJoinsRow.holds Try.pinned (OpenSpec.ofChange utfJoinsSpec)

/-- ITS FALSE NEIGHBOUR: 'it returns false'. Refute it at one input. -/
def utfJoinsWrong : ChangeSpec := { name := "utfJoins", fn := fun _ => fun
  | [d1, d2] => { results := [.lit (.bool false)], args := [d1, d2] }
  | _ => none }
def UtfJoinsWrongFalsely : Prop := utfJoinsRow.holds Try.pinned (OpenSpec.ofChange utfJoinsWrong)

/-- 'sprlaw2.UtfWidths': WHATEVER THE INPUT: true; the input reads as it did. -/
def utfWidthsSpec : ChangeSpec := { name := "utfWidths", fn := fun _ => fun
  | [d] => { results := [.lit (.bool true)], args := [d] }
  | _ => none }
def utfWidthsRow : OpenClaim := { program := "ytgpomfldlibldaa", sum := "bb6e3b8be79d519db02560f13f262aebc4ce0026aaa4bcd9a4019967cbcbd93b", func := "springhouse/sprlaw2.UtfWidths", spec := "utfWidths", apart := false }
def UtfWidthsSaid : Prop := utfWidthsRow.holds Try.pinned (OpenSpec.ofChange utfWidthsSpec)

/-- ITS FALSE NEIGHBOUR: 'it returns false'. Refute it at one input. -/
def utfWidthsWrong : ChangeSpec := { name := "utfWidths", fn := fun _ => fun
  | [d] => { results := [.lit (.bool false)], args := [d] }
  | _ => none }
def UtfWidthsWrongFalsely : Prop := utfWidthsRow.holds Try.pinned (OpenSpec.ofChange utfWidthsWrong)

/-- 'sprlaw2.UtfCodes': WHATEVER THE INPUT: true; the input reads as it did. -/
def utfCodesSpec : ChangeSpec := { name := "utfCodes", fn := fun _ => fun
  | [d1, d2] => { results := [.lit (.bool true)], args := [d1, d2] }
  | _ => none }
def utfCodesRow : OpenClaim := { program := "ytgpomfldlibldaa", sum := "bb6e3b8be79d519db02560f13f262aebc4ce0026aaa4bcd9a4019967cbcbd93b", func := "springhouse/sprlaw2.UtfCodes", spec := "utfCodes", apart := false }
def UtfCodesSaid : Prop := utfCodesRow.holds Try.pinned (OpenSpec.ofChange utfCodesSpec)

/-- ITS FALSE NEIGHBOUR: 'it returns false'. Refute it at one input. -/
def utfCodesWrong : ChangeSpec := { name := "utfCodes", fn := fun _ => fun
  | [d1, d2] => { results := [.lit (.bool false)], args := [d1, d2] }
  | _ => none }
def UtfCodesWrongFalsely : Prop := utfCodesRow.holds Try.pinned (OpenSpec.ofChange utfCodesWrong)

/- THE SECOND FORM. 'bulk': how many values and letters a reading holds, each counted each time it is reached (what is shared counts as often as it is met; a slice's spare places count too). A statement '..UptoSaid' is the law's where the arguments, and the package variables that the reading takes, are together of bulk at most 1048576: NARROWER than '..Said'. Prove '..Said' where nothing that the law and all that it calls make is longer than what came in: it says more and counts as full. Else prove '..UptoSaid'. A law counts once. -/
mutual
def uptoBulk {H : Type} : DataW H → Nat
  | .lit (.string bytes) => bytes.length + 1
  | .lit _ => 1
  | .nil => 1
  | .ptr d => uptoBulk d + 1
  | .slice elems spare => uptoBulkAll elems + uptoBulkAll spare + 1
  | .agg parts => uptoBulkAll parts + 1
  | .iface _ d => uptoBulk d + 1
  | .map entries => uptoBulkEntries entries + 1
  | .held _ => 1
def uptoBulkAll {H : Type} : List (DataW H) → Nat
  | [] => 0
  | d :: r => uptoBulk d + uptoBulkAll r
def uptoBulkEntries {H : Type} : List (Lit × DataW H) → Nat
  | [] => 0
  | x :: r => uptoBulkEntry x + uptoBulkEntries r
def uptoBulkEntry {H : Type} : Lit × DataW H → Nat
  | (.string bytes, d) => bytes.length + uptoBulk d + 1
  | (_, d) => uptoBulk d + 1
 end
def uptoSmall : (H : Type) → List (DataW H) → Bool := fun _ ds => decide (uptoBulkAll ds ≤ 1048576)
def OpenSpec.upto (s : _root_.Go.ChangeSpec) : _root_.Go.OpenSpec := { _root_.Go.OpenSpec.ofChange s with cond := some uptoSmall }

/-- 'sprlaw2.UtfSigns', WHERE WHAT IT READS IS OF BULK AT MOST 1048576: true; the input reads as it did. -/
def utfSignsUptoRow : OpenClaim := { program := "ytgpomfldlibldaa", sum := "bb6e3b8be79d519db02560f13f262aebc4ce0026aaa4bcd9a4019967cbcbd93b", func := "springhouse/sprlaw2.UtfSigns", spec := "utfSigns", apart := false, narrowed := true }
def UtfSignsUptoSaid : Prop := utfSignsUptoRow.holds Try.pinned (OpenSpec.upto utfSignsSpec)

/-- 'sprlaw2.UtfBack', WHERE WHAT IT READS IS OF BULK AT MOST 1048576: true; the input reads as it did. -/
def utfBackUptoRow : OpenClaim := { program := "ytgpomfldlibldaa", sum := "bb6e3b8be79d519db02560f13f262aebc4ce0026aaa4bcd9a4019967cbcbd93b", func := "springhouse/sprlaw2.UtfBack", spec := "utfBack", apart := false, narrowed := true }
def UtfBackUptoSaid : Prop := utfBackUptoRow.holds Try.pinned (OpenSpec.upto utfBackSpec)

/-- 'sprlaw2.UtfJoins', WHERE WHAT IT READS IS OF BULK AT MOST 1048576: true; the input reads as it did. -/
def utfJoinsUptoRow : OpenClaim := { program := "ytgpomfldlibldaa", sum := "bb6e3b8be79d519db02560f13f262aebc4ce0026aaa4bcd9a4019967cbcbd93b", func := "springhouse/sprlaw2.UtfJoins", spec := "utfJoins", apart := false, narrowed := true }
def UtfJoinsUptoSaid : Prop := utfJoinsUptoRow.holds Try.pinned (OpenSpec.upto utfJoinsSpec)

/-- 'sprlaw2.UtfWidths', WHERE WHAT IT READS IS OF BULK AT MOST 1048576: true; the input reads as it did. -/
def utfWidthsUptoRow : OpenClaim := { program := "ytgpomfldlibldaa", sum := "bb6e3b8be79d519db02560f13f262aebc4ce0026aaa4bcd9a4019967cbcbd93b", func := "springhouse/sprlaw2.UtfWidths", spec := "utfWidths", apart := false, narrowed := true }
def UtfWidthsUptoSaid : Prop := utfWidthsUptoRow.holds Try.pinned (OpenSpec.upto utfWidthsSpec)

/-- 'sprlaw2.UtfCodes', WHERE WHAT IT READS IS OF BULK AT MOST 1048576: true; the input reads as it did. -/
def utfCodesUptoRow : OpenClaim := { program := "ytgpomfldlibldaa", sum := "bb6e3b8be79d519db02560f13f262aebc4ce0026aaa4bcd9a4019967cbcbd93b", func := "springhouse/sprlaw2.UtfCodes", spec := "utfCodes", apart := false, narrowed := true }
def UtfCodesUptoSaid : Prop := utfCodesUptoRow.holds Try.pinned (OpenSpec.upto utfCodesSpec)

end Rows
end Go.Proofs.Ytgpomfldlibldaa
