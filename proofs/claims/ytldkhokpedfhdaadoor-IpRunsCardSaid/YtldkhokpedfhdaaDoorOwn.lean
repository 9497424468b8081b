/-
  Words of this session's own: bytes made of a text ([]byte(s)), written and read back: letters made small.
-/
import Derived.Test.YtldkhokpedfhdaaDoorProg
import Derived.Lib.ConvBytes
import Derived.Lib.Bytealg
import Derived.Laws.Tables
import Derived.Laws.Rows
import Derived.Laws.IdiomStrings
import Derived.Below
import Derived.RowKit
import Derived.WalkKit
import Derived.Lib.TrailingZeros
import Derived.Lib.LaidTab
import Derived.Lib.ItoaNum
set_option linter.unusedVariables false
set_option linter.unusedSimpArgs false
namespace Go.Proofs.YtldkhokpedfhdaaDoor.Own
open Go.RowKit
/-- A letter made small. -/
def lowb (c : UInt8) : UInt8 := if 65 ≤ c.toNat ∧ c.toNat ≤ 90 then c + 32 else c
/-- The first i letters are small. -/
def lowTo (s : ByteArray) (i : Nat) : List UInt8 := (s.data.toList.take i).map lowb ++ s.data.toList.drop i
/-- A block of bytes of the call's own. -/
structure BytesAt (w : World) (B : Nat) (l : List UInt8) : Prop where
  lt : B < w.heap.size
  cell : ∀ j (hj : j < l.length), w.cell? ⟨B, j, none⟩ = some (.int .u8 (l[j].toNat : Int))
  free : ∀ j, j < l.length → w.frozen? ⟨B, j, none⟩ = false
theorem lowTo_length (s : ByteArray) (i : Nat) : (lowTo s i).length = s.size := by
  have : s.data.toList.length = s.size := rfl
  simp only [lowTo, List.length_append, List.length_map, List.length_take, List.length_drop]; omega
theorem lowTo_at (s : ByteArray) (i : Nat) (h : i < s.size) : (lowTo s i)[i]? = some (s.data.toList[i]'h) := by
  have hl : s.data.toList.length = s.size := rfl
  have hm : (List.map lowb (List.take i s.data.toList)).length = i := by rw [List.length_map, List.length_take]; omega
  unfold lowTo
  rw [List.getElem?_append_right (by omega), hm, Nat.sub_self, List.getElem?_drop, Nat.add_zero, List.getElem?_eq_getElem]
theorem lowTo_succ (s : ByteArray) (i : Nat) (h : i < s.size) : lowTo s (i + 1) = (lowTo s i).set i (lowb (s.data.toList[i]'h)) := by
  have hl : s.data.toList.length = s.size := rfl
  have hm : (List.map lowb (List.take i s.data.toList)).length = i := by rw [List.length_map, List.length_take]; omega
  unfold lowTo
  rw [List.set_append_right _ _ (by omega), hm, Nat.sub_self, List.take_add_one, List.getElem?_eq_getElem (show i < s.data.toList.length from h)]
  rw [List.drop_eq_getElem_cons (show i < s.data.toList.length from h)]
  simp
theorem lowTo_all (s : ByteArray) : lowTo s s.size = s.data.toList.map lowb := by
  have hl : s.data.toList.length = s.size := rfl
  unfold lowTo
  rw [← hl, List.take_length, List.drop_length, List.append_nil]
theorem bytesAt_conv (w : World) (e : TypeId) (s : ByteArray) : BytesAt (Lib.bytesWorld w e s) w.heap.size (lowTo s 0) := by
  have hl : (lowTo s 0) = s.data.toList := by simp [lowTo]
  have hs : s.data.toList.length = s.size := rfl
  rw [hl]
  refine ⟨by rw [Lib.bytesWorld_size]; omega, fun j hj => ?_, fun j hj => ?_⟩
  · rw [Lib.bytesWorld_cell w e s j hj, List.getD_eq_getElem?_getD, List.getElem?_eq_getElem hj]; rfl
  · unfold World.frozen?
    rw [Lib.bytesWorld_at_new]
    simp [Lib.bytesCells]
    omega
theorem BytesAt.set {w : World} {B : Nat} {l : List UInt8} (h : BytesAt w B l) (i : Nat) (hi : i < l.length) (c : UInt8) : BytesAt (w.setCell ⟨B, i, none⟩ (.int .u8 (c.toNat : Int))) B (l.set i c) := by
  refine ⟨by rw [World.size_setCell]; exact h.lt, fun j hj => ?_, fun j hj => ?_⟩
  · rw [List.length_set] at hj
    by_cases e : i = j
    · subst e
      rw [World.cell?_setCell_same _ _ _ (h.cell i hi)]
      simp
    · rw [World.cell?_setCell_other _ _ _ _ (by intro q; injection q with q1 q2; exact e q2), h.cell j hj, List.getElem_set_ne e]
  · rw [List.length_set] at hj
    rw [World.frozen?_setCell]; exact h.free j hj
theorem BytesAt.at {w : World} {B : Nat} {l : List UInt8} (h : BytesAt w B l) (i : Nat) (c : UInt8) (hi : l[i]? = some c) : w.cell? ⟨B, i, none⟩ = some (.int .u8 (c.toNat : Int)) := by
  obtain ⟨h1, h2⟩ := List.getElem?_eq_some_iff.1 hi
  rw [h.cell i h1, h2]
theorem BytesAt.drew {w : World} {B : Nat} {l : List UInt8} (h : BytesAt w B l) : BytesAt w.drew B l := ⟨h.lt, h.cell, h.free⟩
theorem below_bytesWorld (w : World) (e : TypeId) (s : ByteArray) : Below w.heap.size w (Lib.bytesWorld w e s) := by
  refine ⟨rfl, rfl, rfl, by rw [Lib.bytesWorld_size]; omega, fun k hk => Lib.bytesWorld_at_old w e s k hk⟩
theorem lowb_up {c : UInt8} (h1 : 65 ≤ (c.toNat : Int)) (h2 : (c.toNat : Int) ≤ 90) : ((lowb c).toNat : Int) = (c.toNat : Int) + 97 - 65 := by
  unfold lowb
  rw [if_pos ⟨by omega, by omega⟩, UInt8.toNat_add]
  show (((c.toNat + 32) % 256 : Nat) : Int) = _
  omega
theorem lowb_same {c : UInt8} (h : ¬ (65 ≤ (c.toNat : Int) ∧ (c.toNat : Int) ≤ 90)) : lowb c = c := by
  unfold lowb
  rw [if_neg (fun z => h ⟨by omega, by omega⟩)]
theorem BytesAt.low {w : World} {B : Nat} {s : ByteArray} {n : Nat} (h : BytesAt w B (lowTo s n)) (hn : n < s.size) (h1 : 65 ≤ ((s.data.toList[n]'hn).toNat : Int)) (h2 : ((s.data.toList[n]'hn).toNat : Int) ≤ 90) :
    BytesAt (w.setCell ⟨B, n, none⟩ (.int .u8 (((s.data.toList[n]'hn).toNat : Int) + 97 - 65))) B (lowTo s (n + 1)) := by
  rw [lowTo_succ s n hn, ← lowb_up h1 h2]
  exact h.set n (by rw [lowTo_length]; exact hn) _
theorem BytesAt.keep {w : World} {B : Nat} {s : ByteArray} {n : Nat} (h : BytesAt w B (lowTo s n)) (hn : n < s.size) (h1 : ¬ (65 ≤ ((s.data.toList[n]'hn).toNat : Int) ∧ ((s.data.toList[n]'hn).toNat : Int) ≤ 90)) :
    BytesAt w B (lowTo s (n + 1)) := by
  rw [lowTo_succ s n hn, lowb_same h1]
  obtain ⟨h3, h4⟩ := List.getElem?_eq_some_iff.1 (lowTo_at s n hn)
  rw [← h4, List.set_getElem_self]
  exact h
theorem BytesAt.off {w : World} {B : Nat} {l : List UInt8} (h : BytesAt w B l) (j : Nat) (hj : j < l.length) : w.cell? ((⟨B, 0, none⟩ : Addr).add j) = some (.int .u8 (l[j].toNat : Int)) := by
  rw [← h.cell j hj]
  congr 1
  unfold Addr.add
  split <;> simp_all
/-- Is a byte a great letter? -/
def greatb (c : UInt8) : Bool := decide (65 ≤ (c.toNat : Int)) && decide ((c.toNat : Int) ≤ 90)
/-- A text in small letters. -/
def low (s : ByteArray) : ByteArray := ⟨(s.data.toList.map lowb).toArray⟩
def okS (s : ByteArray) : Bool := decide (s.size ≤ 9223372036854775807)
/-- Two names are the same, whatever letters they have. -/
def same (a b : ByteArray) : Bool := (low a).toList == (low b).toList
theorem world_heap {w v : World} (h : w.heap = v.heap) (a : w.tape = v.tape) (b : w.drawn = v.drawn) (c : w.os = v.os) (d : w.output = v.output) : w = v := by
  cases w; cases v; cases h; cases a; cases b; cases c; cases d; rfl
/-- A fresh block's row, laid at once. -/
theorem nlt {w : World} {a : Addr} {v : Value} {g b : Nat} (h : w.cell? a = some v) (G : w.heap.size ≤ g) (e : a.block = b := by rfl) : b ≠ g := e ▸ Nat.ne_of_lt (Nat.lt_of_lt_of_le (World.block_lt_of_cell? _ _ h) G)
theorem alloc_setRow (w : World) (Z A : Array Value) (t : TypeId) : (w.alloc (.cells Z t)).setRow w.heap.size A = w.alloc (.cells A t) := by
  refine world_heap ?_ rfl rfl rfl rfl
  apply Array.ext_getElem?
  intro i
  by_cases h : i = w.heap.size
  · subst h
    rw [setRow_heap _ _ Z A t (0, 0) (heap_alloc_new w _), heap_alloc_new]
  · rw [setRow_other _ _ _ _ h]
    show (w.heap.push _)[i]? = (w.heap.push _)[i]?
    rw [Array.getElem?_push, Array.getElem?_push, if_neg h, if_neg h]
theorem alloc2_setRow1 (w : World) (o : Obj) (Z A : Array Value) (t : TypeId) : ((w.alloc o).alloc (.cells Z t)).setRow (w.heap.size + 1) A = (w.alloc o).alloc (.cells A t) := by
  have h := alloc_setRow (w.alloc o) Z A t
  rw [World.size_alloc] at h
  exact h
theorem alloc2_setRow0 (w : World) (o : Obj) (Z A : Array Value) (t : TypeId) : ((w.alloc (.cells Z t)).alloc o).setRow w.heap.size A = (w.alloc (.cells A t)).alloc o := by
  refine world_heap ?_ rfl rfl rfl rfl
  apply Array.ext_getElem?
  intro i
  have hs : (w.alloc (.cells Z t)).heap.size = (w.alloc (.cells A t)).heap.size := by rw [World.size_alloc, World.size_alloc]
  have hn : w.heap.size < (w.alloc (.cells Z t)).heap.size := by rw [World.size_alloc]; omega
  have hn' : w.heap.size < (w.alloc (.cells A t)).heap.size := by rw [World.size_alloc]; omega
  by_cases h : i = w.heap.size
  · subst h
    rw [setRow_heap _ _ Z A t (0, 0) ((heap_alloc_old _ _ hn).trans (heap_alloc_new w _)), heap_alloc_old _ _ hn', heap_alloc_new]
  · rw [setRow_other _ _ _ _ h]
    show ((w.heap.push _).push _)[i]? = ((w.heap.push _).push _)[i]?
    rw [Array.getElem?_push, Array.getElem?_push, Array.getElem?_push, Array.getElem?_push, Array.size_push, Array.size_push]
    simp only [h, if_false]
/-- What Cache-Control says: eleven marks, five numbers that may be there. -/
structure Ctl where
  b0 : Bool
  b1 : Bool
  b2 : Bool
  b3 : Bool
  b4 : Bool
  b5 : Bool
  b6 : Bool
  b7 : Bool
  b8 : Bool
  b9 : Bool
  b10 : Bool
  h0 : Bool
  n0 : Int
  h1 : Bool
  n1 : Int
  h2 : Bool
  n2 : Int
  h3 : Bool
  n3 : Int
  h4 : Bool
  n4 : Int
def Ctl.zero : Ctl := ⟨false, false, false, false, false, false, false, false, false, false, false, false, 0, false, 0, false, 0, false, 0, false, 0⟩
def Ctl.tup (c : Ctl) : Bool × Bool × Bool × Bool × Bool × Bool × Bool × Bool × Bool × Bool × Bool × Bool × Int × Bool × Int × Bool × Int × Bool × Int × Bool × Int := (c.b0, c.b1, c.b2, c.b3, c.b4, c.b5, c.b6, c.b7, c.b8, c.b9, c.b10, c.h0, c.n0, c.h1, c.n1, c.h2, c.n2, c.h3, c.n3, c.h4, c.n4)
def Ctl.cells (c : Ctl) : Array Value := #[.bool c.b0, .bool c.b1, .bool c.b2, .bool c.b3, .bool c.b4, .bool c.b5, .bool c.b6, .bool c.b7, .bool c.b8, .bool c.b9, .bool c.b10, .bool c.h0, .int .i64 c.n0, .bool c.h1, .int .i64 c.n1, .bool c.h2, .int .i64 c.n2, .bool c.h3, .int .i64 c.n3, .bool c.h4, .int .i64 c.n4]
/-- The place of a directive's name. -/
def kindOf (s : ByteArray) : Nat :=
  if (s.toList == ([110, 111, 45, 115, 116, 111, 114, 101] : List UInt8)) = true then 0 else
  if (s.toList == ([110, 111, 45, 99, 97, 99, 104, 101] : List UInt8)) = true then 1 else
  if (s.toList == ([112, 114, 105, 118, 97, 116, 101] : List UInt8)) = true then 2 else
  if (s.toList == ([112, 117, 98, 108, 105, 99] : List UInt8)) = true then 3 else
  if (s.toList == ([109, 117, 115, 116, 45, 114, 101, 118, 97, 108, 105, 100, 97, 116, 101] : List UInt8)) = true then 4 else
  if (s.toList == ([112, 114, 111, 120, 121, 45, 114, 101, 118, 97, 108, 105, 100, 97, 116, 101] : List UInt8)) = true then 5 else
  if (s.toList == ([111, 110, 108, 121, 45, 105, 102, 45, 99, 97, 99, 104, 101, 100] : List UInt8)) = true then 6 else
  if (s.toList == ([109, 117, 115, 116, 45, 117, 110, 100, 101, 114, 115, 116, 97, 110, 100] : List UInt8)) = true then 7 else
  if (s.toList == ([105, 109, 109, 117, 116, 97, 98, 108, 101] : List UInt8)) = true then 8 else
  if (s.toList == ([110, 111, 45, 116, 114, 97, 110, 115, 102, 111, 114, 109] : List UInt8)) = true then 9 else
  if (s.toList == ([109, 97, 120, 45, 97, 103, 101] : List UInt8)) = true then 10 else
  if (s.toList == ([115, 45, 109, 97, 120, 97, 103, 101] : List UInt8)) = true then 11 else
  if (s.toList == ([115, 116, 97, 108, 101, 45, 105, 102, 45, 101, 114, 114, 111, 114] : List UInt8)) = true then 12 else
  if (s.toList == ([109, 105, 110, 45, 102, 114, 101, 115, 104] : List UInt8)) = true then 13 else
  if (s.toList == ([109, 97, 120, 45, 115, 116, 97, 108, 101] : List UInt8)) = true then 14 else
  15
def leastOf (h : Bool) (x n : Int) : Int := if h = true then (if x < n then x else n) else n
def greatestOf (x n : Int) : Int := if n < x then x else n
/-- One directive more. -/
def Ctl.act (c : Ctl) (kd : Nat) (has : Bool) (n : Int) (ok : Bool) : Ctl :=
  ⟨c.b0 || kd == 0, c.b1 || kd == 1, c.b2 || kd == 2, c.b3 || kd == 3, c.b4 || kd == 4, c.b5 || kd == 5, c.b6 || kd == 6, c.b7 || kd == 7, c.b8 || kd == 8, c.b9 || kd == 9, c.b10 || (kd == 14 && !has),
    c.h0 || (kd == 10), if (kd == 10) = true then leastOf c.h0 c.n0 n else c.n0,
    c.h1 || (kd == 11), if (kd == 11) = true then leastOf c.h1 c.n1 n else c.n1,
    c.h2 || (kd == 14 && has), if (kd == 14 && has) = true then leastOf c.h2 c.n2 n else c.n2,
    c.h3 || kd == 13, if kd == 13 then greatestOf c.n3 (if ok = true then n else 2147483648) else c.n3,
    c.h4 || (kd == 12), if (kd == 12) = true then leastOf c.h4 c.n4 n else c.n4⟩
/-- The last word on a number of seconds that may be anything. -/
def Ctl.fin (c : Ctl) : Ctl := { c with b10 := c.b10 && !c.h2 }
/-- The text before the first '='; behind it. -/
def cutAt (s : ByteArray) : Int := Lib.indexByte s.data.toList 61
def cutName (s : ByteArray) : ByteArray := if cutAt s ≥ 0 then s.extract 0 (cutAt s).toNat else s
def cutArg (s : ByteArray) : ByteArray := if cutAt s ≥ 0 then s.extract (cutAt s + 1).toNat s.size else ⟨#[]⟩
def cutHas (s : ByteArray) : Bool := decide (cutAt s ≥ 0)
/-- Short names, for texts that would be too long (wip/press.py). -/
abbrev Y : Bool := true
abbrev Z : Bool := false
theorem sA {α : Type} (l : List α) (i : Nat) (a : α) : l.toArray.setIfInBounds i a = (l.set i a).toArray := List.setIfInBounds_toArray l i a
theorem sB {α : Type} (x : α) (l : List α) (a : α) : (x :: l).set 0 a = a :: l := List.set_cons_zero
theorem sC {α : Type} (x : α) (l : List α) (i : Nat) (a : α) : (x :: l).set (i + 1) a = x :: l.set i a := List.set_cons_succ
/-! texts in order: the model's words on '<=', '>', '>=' -/
theorem bless_total : ∀ x y : List UInt8, (Op.bytesLess x y || x == y) = !Op.bytesLess y x
  | [], [] => by simp [Op.bytesLess]
  | _ :: _, [] => by simp [Op.bytesLess]
  | [], _ :: _ => by simp [Op.bytesLess]
  | a :: x, b :: y => by
    have ih := bless_total x y
    simp only [Op.bytesLess]
    by_cases h3 : a = b
    · subst h3
      have h1 : ¬ a < a := UInt8.lt_irrefl a
      simp only [h1, decide_false, beq_self_eq_true, Bool.true_and, Bool.false_or, List.cons_beq_cons]
      exact ih
    · have hne : (a == b) = false := beq_eq_false_iff_ne.2 h3
      have hne' : (b == a) = false := beq_eq_false_iff_ne.2 (Ne.symm h3)
      simp only [hne, hne', Bool.false_and, Bool.or_false, List.cons_beq_cons]
      by_cases h1 : a < b
      · have h2 : ¬ b < a := fun q => UInt8.lt_irrefl a (UInt8.lt_trans h1 q)
        simp [h1, h2]
      · have h2 : b < a := by
          rcases Nat.lt_or_ge b.toNat a.toNat with q | q
          · exact q
          · exact absurd (UInt8.toNat_inj.1 (Nat.le_antisymm q (Nat.not_lt.1 h1)).symm |>.symm) h3
        simp [h1, h2]
theorem leqS (t : TypeId) (a b : ByteArray) : binOp .leq t (.string a) (.string b) = pure (.bool !(Op.bytesLess b.toList a.toList)) := by
  have h := bless_total a.toList b.toList
  simp only [← h]
  simp [binOp, Op.stringOp]
theorem gtrS (t : TypeId) (a b : ByteArray) : binOp .gtr t (.string a) (.string b) = pure (.bool (Op.bytesLess b.toList a.toList)) := by
  have h := bless_total a.toList b.toList
  have h2 : Op.bytesLess b.toList a.toList = !(Op.bytesLess a.toList b.toList || a.toList == b.toList) := by rw [h, Bool.not_not]
  rw [h2]
  simp [binOp, Op.stringOp]
theorem geqS (t : TypeId) (a b : ByteArray) : binOp .geq t (.string a) (.string b) = pure (.bool !(Op.bytesLess a.toList b.toList)) := by simp [binOp, Op.stringOp]
/-! what this seat's library variables hold -/
/-- internal/bytealg.MaxLen is a number; the tables of math/bits and of strconv are what they are. -/
def ipW (w : World) : Prop := (∃ m, w.cell? ⟨0, 0, none⟩ = some (.int .i64 m)) ∧ Lib.TabIs Tryd.prog w "math/bits.deBruijn64tab" .u8 (Lib.deBruijn64tab.map Int.ofNat) ∧ Lib.TabIs Tryd.prog w "internal/strconv.uint64pow10" .u64 Lib.pow10Tab
/-- A listed table stays what it is while new memory is made. -/
theorem tabIs_below {P : Program} {w w' : World} {nm : String} {k : IntKind} {zs : List Int} (h : Lib.TabIs P w nm k zs) (hb : Below w.heap.size w w') : Lib.TabIs P w' nm k zs := by
  unfold Lib.TabIs World.var? at *
  cases hg : P.globalNamed nm with
  | none => rw [hg] at h; cases h
  | some g =>
    rw [hg] at h
    simp only [Option.bind_some] at h ⊢
    have hlt : g < w.heap.size := by
      refine Nat.lt_of_not_le (fun c => ?_)
      rw [Array.getElem?_eq_none c] at h
      cases h
    rw [hb.block g hlt]
    exact h
theorem ipW_below {w w' : World} (h : ipW w) (hb : Below w.heap.size w w') : ipW w' := by
  obtain ⟨⟨m, hm⟩, h1, h2⟩ := h
  exact ⟨⟨m, (hb.cell (World.block_lt_of_cell? _ _ hm)).trans hm⟩, tabIs_below h1 hb, tabIs_below h2 hb⟩
theorem tab_cell {P : Program} {w : World} {nm : String} {k : IntKind} {zs : List Int} (h : Lib.TabIs P w nm k zs) {g : Nat} (hg : P.globalNamed nm = some g) (i : Nat) (z : Int) (hi : zs[i]? = some z) : w.cell? ⟨g, i, none⟩ = some (.int k z) := by
  unfold Lib.TabIs World.var? at h
  rw [hg] at h
  simp only [Option.bind_some] at h
  unfold World.cell?
  cases hb : w.heap[g]? with
  | none => rw [hb] at h; cases h
  | some o =>
    rw [hb] at h
    cases o <;> simp_all
def hexD (n : Nat) : UInt8 := if n < 10 then (48 + n).toUInt8 else (87 + n).toUInt8
/-- A number's digits of 16 ahead of what is there. -/
def hexT : Nat → Nat → List UInt8 → List UInt8
  | 0, _, acc => acc
  | f + 1, n, acc => if n < 16 then hexD n :: acc else hexT f (n / 16) (hexD (n % 16) :: acc)
end Go.Proofs.YtldkhokpedfhdaaDoor.Own
