/-
  Words of this session's own: bytes made of a text ([]byte(s)), written and read back: letters made small.
-/
import Derived.Test.YtmcjmmdejgoamaaDoorProg
import Derived.Lib.ConvBytes
import Derived.Laws.IdiomStrings
import Derived.Below
import Derived.RowKit
import Derived.WalkKit
set_option linter.unusedVariables false
set_option linter.unusedSimpArgs false
namespace Go.Proofs.YtmcjmmdejgoamaaDoor.Own
open Go.RowKit
/-- A letter made small. -/
def lowb (c : UInt8) : UInt8 := if 65 ≤ c.toNat ∧ c.toNat ≤ 90 then c + 32 else c
/-- The first i letters are small. -/
def lowTo (s : ByteArray) (i : Nat) : List UInt8 := (s.data.toList.take i).map lowb ++ s.data.toList.drop i
/-- A block of bytes of the call's own. -/
structure BytesAt (w : World) (B : Nat) (l : List UInt8) : Prop where
  lt : B < w.heap.size
  cell : ∀ j (hj : j < l.length), w.cell? ⟨B, j, none⟩ = some (.int .u8 (l[j].toNat : Int))
  free : ∀ j, j < l.length → w.frozen? ⟨B, j, none⟩ = false
theorem lowTo_length (s : ByteArray) (i : Nat) : (lowTo s i).length = s.size := by
  have : s.data.toList.length = s.size := rfl
  simp only [lowTo, List.length_append, List.length_map, List.length_take, List.length_drop]; omega
theorem lowTo_at (s : ByteArray) (i : Nat) (h : i < s.size) : (lowTo s i)[i]? = some (s.data.toList[i]'h) := by
  have hl : s.data.toList.length = s.size := rfl
  have hm : (List.map lowb (List.take i s.data.toList)).length = i := by rw [List.length_map, List.length_take]; omega
  unfold lowTo
  rw [List.getElem?_append_right (by omega), hm, Nat.sub_self, List.getElem?_drop, Nat.add_zero, List.getElem?_eq_getElem]
theorem lowTo_succ (s : ByteArray) (i : Nat) (h : i < s.size) : lowTo s (i + 1) = (lowTo s i).set i (lowb (s.data.toList[i]'h)) := by
  have hl : s.data.toList.length = s.size := rfl
  have hm : (List.map lowb (List.take i s.data.toList)).length = i := by rw [List.length_map, List.length_take]; omega
  unfold lowTo
  rw [List.set_append_right _ _ (by omega), hm, Nat.sub_self, List.take_add_one, List.getElem?_eq_getElem (show i < s.data.toList.length from h)]
  rw [List.drop_eq_getElem_cons (show i < s.data.toList.length from h)]
  simp
theorem lowTo_all (s : ByteArray) : lowTo s s.size = s.data.toList.map lowb := by
  have hl : s.data.toList.length = s.size := rfl
  unfold lowTo
  rw [← hl, List.take_length, List.drop_length, List.append_nil]
theorem bytesAt_conv (w : World) (e : TypeId) (s : ByteArray) : BytesAt (Lib.bytesWorld w e s) w.heap.size (lowTo s 0) := by
  have hl : (lowTo s 0) = s.data.toList := by simp [lowTo]
  have hs : s.data.toList.length = s.size := rfl
  rw [hl]
  refine ⟨by rw [Lib.bytesWorld_size]; omega, fun j hj => ?_, fun j hj => ?_⟩
  · rw [Lib.bytesWorld_cell w e s j hj, List.getD_eq_getElem?_getD, List.getElem?_eq_getElem hj]; rfl
  · unfold World.frozen?
    rw [Lib.bytesWorld_at_new]
    simp [Lib.bytesCells]
    omega
theorem BytesAt.set {w : World} {B : Nat} {l : List UInt8} (h : BytesAt w B l) (i : Nat) (hi : i < l.length) (c : UInt8) : BytesAt (w.setCell ⟨B, i, none⟩ (.int .u8 (c.toNat : Int))) B (l.set i c) := by
  refine ⟨by rw [World.size_setCell]; exact h.lt, fun j hj => ?_, fun j hj => ?_⟩
  · rw [List.length_set] at hj
    by_cases e : i = j
    · subst e
      rw [World.cell?_setCell_same _ _ _ (h.cell i hi)]
      simp
    · rw [World.cell?_setCell_other _ _ _ _ (by intro q; injection q with q1 q2; exact e q2), h.cell j hj, List.getElem_set_ne e]
  · rw [List.length_set] at hj
    rw [World.frozen?_setCell]; exact h.free j hj
theorem BytesAt.at {w : World} {B : Nat} {l : List UInt8} (h : BytesAt w B l) (i : Nat) (c : UInt8) (hi : l[i]? = some c) : w.cell? ⟨B, i, none⟩ = some (.int .u8 (c.toNat : Int)) := by
  obtain ⟨h1, h2⟩ := List.getElem?_eq_some_iff.1 hi
  rw [h.cell i h1, h2]
theorem BytesAt.drew {w : World} {B : Nat} {l : List UInt8} (h : BytesAt w B l) : BytesAt w.drew B l := ⟨h.lt, h.cell, h.free⟩
theorem below_bytesWorld (w : World) (e : TypeId) (s : ByteArray) : Below w.heap.size w (Lib.bytesWorld w e s) := by
  refine ⟨rfl, rfl, rfl, by rw [Lib.bytesWorld_size]; omega, fun k hk => Lib.bytesWorld_at_old w e s k hk⟩
theorem lowb_up {c : UInt8} (h1 : 65 ≤ (c.toNat : Int)) (h2 : (c.toNat : Int) ≤ 90) : ((lowb c).toNat : Int) = (c.toNat : Int) + 97 - 65 := by
  unfold lowb
  rw [if_pos ⟨by omega, by omega⟩, UInt8.toNat_add]
  show (((c.toNat + 32) % 256 : Nat) : Int) = _
  omega
theorem lowb_same {c : UInt8} (h : ¬ (65 ≤ (c.toNat : Int) ∧ (c.toNat : Int) ≤ 90)) : lowb c = c := by
  unfold lowb
  rw [if_neg (fun z => h ⟨by omega, by omega⟩)]
theorem BytesAt.low {w : World} {B : Nat} {s : ByteArray} {n : Nat} (h : BytesAt w B (lowTo s n)) (hn : n < s.size) (h1 : 65 ≤ ((s.data.toList[n]'hn).toNat : Int)) (h2 : ((s.data.toList[n]'hn).toNat : Int) ≤ 90) :
    BytesAt (w.setCell ⟨B, n, none⟩ (.int .u8 (((s.data.toList[n]'hn).toNat : Int) + 97 - 65))) B (lowTo s (n + 1)) := by
  rw [lowTo_succ s n hn, ← lowb_up h1 h2]
  exact h.set n (by rw [lowTo_length]; exact hn) _
theorem BytesAt.keep {w : World} {B : Nat} {s : ByteArray} {n : Nat} (h : BytesAt w B (lowTo s n)) (hn : n < s.size) (h1 : ¬ (65 ≤ ((s.data.toList[n]'hn).toNat : Int) ∧ ((s.data.toList[n]'hn).toNat : Int) ≤ 90)) :
    BytesAt w B (lowTo s (n + 1)) := by
  rw [lowTo_succ s n hn, lowb_same h1]
  obtain ⟨h3, h4⟩ := List.getElem?_eq_some_iff.1 (lowTo_at s n hn)
  rw [← h4, List.set_getElem_self]
  exact h
theorem BytesAt.off {w : World} {B : Nat} {l : List UInt8} (h : BytesAt w B l) (j : Nat) (hj : j < l.length) : w.cell? ((⟨B, 0, none⟩ : Addr).add j) = some (.int .u8 (l[j].toNat : Int)) := by
  rw [← h.cell j hj]
  congr 1
  unfold Addr.add
  split <;> simp_all
/-- Is a byte a great letter? -/
def greatb (c : UInt8) : Bool := decide (65 ≤ (c.toNat : Int)) && decide ((c.toNat : Int) ≤ 90)
/-- A text in small letters. -/
def low (s : ByteArray) : ByteArray := ⟨(s.data.toList.map lowb).toArray⟩
def okS (s : ByteArray) : Bool := decide (s.size ≤ 9223372036854775807)
/-- Two names are the same, whatever letters they have. -/
def same (a b : ByteArray) : Bool := (low a).toList == (low b).toList
end Go.Proofs.YtmcjmmdejgoamaaDoor.Own
