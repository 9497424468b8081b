-- Written by a program of this session's (wip/xprint.py), out of the seat's translation.
import Derived.Test.YtldkhokpedfhdaaDoorK0
import Derived.Test.YtldkhokpedfhdaaDoorK1
import Derived.Test.YtldkhokpedfhdaaDoorK3
import Derived.Test.YtldkhokpedfhdaaDoorK4
import Derived.Test.YtldkhokpedfhdaaDoorK5
namespace Go.Proofs.YtldkhokpedfhdaaDoor.K
open Go.RowKit Go.Proofs.YtldkhokpedfhdaaDoorW.PrintWords Go.Proofs.YtldkhokpedfhdaaDoorW.PrintLast Go.Proofs.YtldkhokpedfhdaaDoorW.PrintMore
attribute [local go_sem] max2_int min2_int max_two min_two max_three min_three max_four min_four   -- for this text's walks alone
set_option linter.unusedVariables false
set_option linter.unusedSimpArgs false

/-! ### sprlaw7_IpRuns: function 4 -/
theorem ipr_meas {n i : Nat} {z : Int} (h : i < n) (hz : z = (i : Int) + 1) : n - (intOf (.int .i64 z)).toNat < n - (intOf (.int .i64 (i : Int))).toNat := by
  subst hz
  show n - ((i : Int) + 1).toNat < n - ((i : Int)).toNat
  omega
theorem ipr_set {w : World} {g : Nat} {t : TypeId} {p : List Int} (hg : w.heap[g]? = some (.cells (arrV p) t (0, 0))) (i : Nat) (x : Int) : (w.setCell ⟨g, i, none⟩ (.int .u16 x)).heap[g]? = some (.cells (arrV (p.set i x)) t (0, 0)) := by
  rw [setCell_eq_setRow w g i _ t (0, 0) _ hg, setRow_heap _ _ _ _ _ _ hg]
  congr 2
  simp [arrV, List.map_set]
theorem ipr_cell {w : World} {g : Nat} {t : TypeId} {p : List Int} (hg : w.heap[g]? = some (.cells (arrV p) t (0, 0))) (i : Nat) (hi : i < p.length) : w.cell? ⟨g, i, none⟩ = some (.int .u16 (p[i]'hi)) := by
  rw [blk_cell hg i]
  exact arr_at p i _ (List.getElem?_eq_getElem hi)
/-- A run of zeros from a place on. -/
def zp (p : List Int) (a : Nat) : Nat → List Int
  | 0 => p
  | i + 1 => (zp p a i).set (a + i) 0
theorem zp_len (p : List Int) (a : Nat) : ∀ i, (zp p a i).length = p.length
  | 0 => rfl
  | i + 1 => by rw [zp, List.length_set, zp_len p a i]
def rF (hs : Nat → ByteArray) : Nat → ByteArray
  | 0 => ⟨#[]⟩
  | i + 1 => (if 0 < i then rF hs i ++ ⟨#[58]⟩ else rF hs i) ++ hs i
def rA (hs : Nat → ByteArray) (a : Nat) : Nat → ByteArray
  | 0 => ⟨#[]⟩
  | i + 1 => if i < a then (if 0 < i then rA hs a i ++ ⟨#[58]⟩ else rA hs a i) ++ hs i else rA hs a i
def rB (hs : Nat → ByteArray) (b : Nat) : Nat → ByteArray
  | 0 => ⟨#[]⟩
  | i + 1 => if b ≤ i then (if (rB hs b i).toList = [] then rB hs b i else rB hs b i ++ ⟨#[58]⟩) ++ hs i else rB hs b i
theorem rF_size (hs : Nat → ByteArray) (h : ∀ i, (hs i).size ≤ 100) : ∀ i, (rF hs i).size ≤ 101 * i
  | 0 => by show 0 ≤ _; omega
  | i + 1 => by
    have ih := rF_size hs h i
    have := h i
    unfold rF
    split <;> simp only [ByteArray.size_append] <;> first | omega | (have : (⟨#[58]⟩ : ByteArray).size = 1 := rfl; omega)
theorem rA_size (hs : Nat → ByteArray) (h : ∀ i, (hs i).size ≤ 100) (a : Nat) : ∀ i, (rA hs a i).size ≤ 101 * i
  | 0 => by show 0 ≤ _; omega
  | i + 1 => by
    have ih := rA_size hs h a i
    have := h i
    unfold rA
    split
    · split <;> simp only [ByteArray.size_append] <;> first | omega | (have : (⟨#[58]⟩ : ByteArray).size = 1 := rfl; omega)
    · omega
theorem rB_size (hs : Nat → ByteArray) (h : ∀ i, (hs i).size ≤ 100) (b : Nat) : ∀ i, (rB hs b i).size ≤ 101 * i
  | 0 => by show 0 ≤ _; omega
  | i + 1 => by
    have ih := rB_size hs h b i
    have := h i
    unfold rB
    split
    · split <;> simp only [ByteArray.size_append] <;> first | omega | (have : (⟨#[58]⟩ : ByteArray).size = 1 := rfl; omega)
    · omega
set_option maxHeartbeats 4000000 in
set_option maxRecDepth 100000 in
theorem sprlaw7_IpRuns.o1 (p : List Int) (a n : Int) (w : World) (hT : Own.ipW w) (h : a < 0) :
    Calls Tryd.prog 4 #[.agg (arrV p), .int .i64 a, .int .i64 n] w fun e w' => e = .returned (.bool true) ∧ Below w.heap.size w w' := by
  have HT := Aside0.mk hT
  have hu := Tryd.underlying23
  have hi0 : (Tryd.prog.info? 23).map (·.size) = some (arrV zero8).size := by kernel_rfl
  have T0 := Aside0.mk trivial
  obtain ⟨w0, hw0⟩ : ∃ w0, w0 = w.alloc (.cells (arrV p) 23) := ⟨_, rfl⟩
  have HB0 : Aside0 (Below w.heap.size w w0) := ⟨by rw [hw0]; exact below_alloc (Below.refl _ _) _⟩
  have HRp_0 : Aside0 (w0.heap[w.heap.size]? = some (.cells (arrV p) 23 (0, 0))) := ⟨by rw [hw0]; exact blk_new _ _⟩
  have q1 : decide (a < 0) = true := decide_eq_true h
  go_enter Tryd.func4, Tryd.ntmps4
  go_wp2_with (first | (clear T0; go_at_call 9; rw [← hw0]; clear hw0; (with_reducible refine (sprlaw7_first.calls 0 true _ rfl (Own.ipW_below HT.out HB0.out)).mono ?_); rintro e w1 ⟨rfl, hb⟩; have HB1 := Aside0.mk (HB0.out.trans (hb.mono HB0.out.size)); have HRp_1 := Aside0.mk (blk_below HRp_0.out hb); clear hb HB0 HRp_0; have T1 := Aside0.mk trivial) | (clear T1; go_at_call 9; (with_reducible refine (sprlaw7_first.calls 0 true _ rfl (Own.ipW_below HT.out HB1.out)).mono ?_); rintro e w2 ⟨rfl, hb⟩; have HB2 := Aside0.mk (HB1.out.trans (hb.mono HB1.out.size)); have HRp_2 := Aside0.mk (blk_below HRp_1.out hb); clear hb HB1 HRp_1; have T2 := Aside0.mk trivial))
  go_ret
  exact ⟨rfl, HB2.out⟩
set_option maxHeartbeats 4000000 in
set_option maxRecDepth 100000 in
theorem sprlaw7_IpRuns.o2 (p : List Int) (a n : Int) (w : World) (hT : Own.ipW w) (h : ¬ a < 0) (h2 : n < 1) :
    Calls Tryd.prog 4 #[.agg (arrV p), .int .i64 a, .int .i64 n] w fun e w' => e = .returned (.bool true) ∧ Below w.heap.size w w' := by
  have HT := Aside0.mk hT
  have hu := Tryd.underlying23
  have hi0 : (Tryd.prog.info? 23).map (·.size) = some (arrV zero8).size := by kernel_rfl
  have T0 := Aside0.mk trivial
  obtain ⟨w0, hw0⟩ : ∃ w0, w0 = w.alloc (.cells (arrV p) 23) := ⟨_, rfl⟩
  have HB0 : Aside0 (Below w.heap.size w w0) := ⟨by rw [hw0]; exact below_alloc (Below.refl _ _) _⟩
  have HRp_0 : Aside0 (w0.heap[w.heap.size]? = some (.cells (arrV p) 23 (0, 0))) := ⟨by rw [hw0]; exact blk_new _ _⟩
  have q1 : decide (a < 0) = false := decide_eq_false h
  have q2 : decide (n < 1) = true := decide_eq_true h2
  clear h h2
  go_enter Tryd.func4, Tryd.ntmps4
  go_wp2_with (first | (clear T0; go_at_call 9; rw [← hw0]; clear hw0; (with_reducible refine (sprlaw7_first.calls 0 true _ rfl (Own.ipW_below HT.out HB0.out)).mono ?_); rintro e w1 ⟨rfl, hb⟩; have HB1 := Aside0.mk (HB0.out.trans (hb.mono HB0.out.size)); have HRp_1 := Aside0.mk (blk_below HRp_0.out hb); clear hb HB0 HRp_0; have T1 := Aside0.mk trivial) | (clear T1; go_at_call 9; (with_reducible refine (sprlaw7_first.calls 0 true _ rfl (Own.ipW_below HT.out HB1.out)).mono ?_); rintro e w2 ⟨rfl, hb⟩; have HB2 := Aside0.mk (HB1.out.trans (hb.mono HB1.out.size)); have HRp_2 := Aside0.mk (blk_below HRp_1.out hb); clear hb HB1 HRp_1; have T2 := Aside0.mk trivial))
  go_ret
  exact ⟨rfl, HB2.out⟩
set_option maxHeartbeats 4000000 in
set_option maxRecDepth 100000 in
theorem sprlaw7_IpRuns.o3 (p : List Int) (a n : Int) (w : World) (hT : Own.ipW w) (h : ¬ a < 0) (h2 : ¬ n < 1) (h3 : 8 < n) :
    Calls Tryd.prog 4 #[.agg (arrV p), .int .i64 a, .int .i64 n] w fun e w' => e = .returned (.bool true) ∧ Below w.heap.size w w' := by
  have HT := Aside0.mk hT
  have hu := Tryd.underlying23
  have hi0 : (Tryd.prog.info? 23).map (·.size) = some (arrV zero8).size := by kernel_rfl
  have T0 := Aside0.mk trivial
  obtain ⟨w0, hw0⟩ : ∃ w0, w0 = w.alloc (.cells (arrV p) 23) := ⟨_, rfl⟩
  have HB0 : Aside0 (Below w.heap.size w w0) := ⟨by rw [hw0]; exact below_alloc (Below.refl _ _) _⟩
  have HRp_0 : Aside0 (w0.heap[w.heap.size]? = some (.cells (arrV p) 23 (0, 0))) := ⟨by rw [hw0]; exact blk_new _ _⟩
  have q1 : decide (a < 0) = false := decide_eq_false h
  have q2 : decide (n < 1) = false := decide_eq_false h2
  have q3 : decide (8 < n) = true := decide_eq_true h3
  clear h h2 h3
  go_enter Tryd.func4, Tryd.ntmps4
  go_wp2_with (first | (clear T0; go_at_call 9; rw [← hw0]; clear hw0; (with_reducible refine (sprlaw7_first.calls 0 true _ rfl (Own.ipW_below HT.out HB0.out)).mono ?_); rintro e w1 ⟨rfl, hb⟩; have HB1 := Aside0.mk (HB0.out.trans (hb.mono HB0.out.size)); have HRp_1 := Aside0.mk (blk_below HRp_0.out hb); clear hb HB0 HRp_0; have T1 := Aside0.mk trivial) | (clear T1; go_at_call 9; (with_reducible refine (sprlaw7_first.calls 0 true _ rfl (Own.ipW_below HT.out HB1.out)).mono ?_); rintro e w2 ⟨rfl, hb⟩; have HB2 := Aside0.mk (HB1.out.trans (hb.mono HB1.out.size)); have HRp_2 := Aside0.mk (blk_below HRp_1.out hb); clear hb HB1 HRp_1; have T2 := Aside0.mk trivial))
  go_ret
  exact ⟨rfl, HB2.out⟩
set_option maxHeartbeats 4000000 in
set_option maxRecDepth 100000 in
theorem sprlaw7_IpRuns.o4 (p : List Int) (a n : Int) (w : World) (hT : Own.ipW w) (h : ¬ a < 0) (h2 : ¬ n < 1) (h3 : ¬ 8 < n) (h4 : 8 - n < a) :
    Calls Tryd.prog 4 #[.agg (arrV p), .int .i64 a, .int .i64 n] w fun e w' => e = .returned (.bool true) ∧ Below w.heap.size w w' := by
  have HT := Aside0.mk hT
  have hu := Tryd.underlying23
  have hi0 : (Tryd.prog.info? 23).map (·.size) = some (arrV zero8).size := by kernel_rfl
  have T0 := Aside0.mk trivial
  obtain ⟨w0, hw0⟩ : ∃ w0, w0 = w.alloc (.cells (arrV p) 23) := ⟨_, rfl⟩
  have HB0 : Aside0 (Below w.heap.size w w0) := ⟨by rw [hw0]; exact below_alloc (Below.refl _ _) _⟩
  have HRp_0 : Aside0 (w0.heap[w.heap.size]? = some (.cells (arrV p) 23 (0, 0))) := ⟨by rw [hw0]; exact blk_new _ _⟩
  have q1 : decide (a < 0) = false := decide_eq_false h
  have q2 : decide (n < 1) = false := decide_eq_false h2
  have q3 : decide (8 < n) = false := decide_eq_false h3
  have ew : wrap64 (8 - n) = 8 - n := by unfold wrap64; omega
  have q4 : decide (8 - n < a) = true := decide_eq_true h4
  clear h h2 h3 h4
  go_enter Tryd.func4, Tryd.ntmps4
  go_wp2_with (first | (clear T0; go_at_call 9; rw [← hw0]; clear hw0; (with_reducible refine (sprlaw7_first.calls 0 true _ rfl (Own.ipW_below HT.out HB0.out)).mono ?_); rintro e w1 ⟨rfl, hb⟩; have HB1 := Aside0.mk (HB0.out.trans (hb.mono HB0.out.size)); have HRp_1 := Aside0.mk (blk_below HRp_0.out hb); clear hb HB0 HRp_0; have T1 := Aside0.mk trivial) | (clear T1; go_at_call 9; (with_reducible refine (sprlaw7_first.calls 0 true _ rfl (Own.ipW_below HT.out HB1.out)).mono ?_); rintro e w2 ⟨rfl, hb⟩; have HB2 := Aside0.mk (HB1.out.trans (hb.mono HB1.out.size)); have HRp_2 := Aside0.mk (blk_below HRp_1.out hb); clear hb HB1 HRp_1; have T2 := Aside0.mk trivial))
  go_ret
  exact ⟨rfl, HB2.out⟩
set_option maxHeartbeats 4000000 in
set_option maxRecDepth 100000 in
theorem sprlaw7_IpRuns.whole (k : Nat) (p : List Int) (a n : Nat) (hs : Nat → ByteArray) (w : World) (hT : Own.ipW w) (hp8 : p.length = 8) (hn : 1 ≤ n) (han : a + n ≤ 8) (hz : ∀ i, (hs i).size ≤ 100) (hx : ∀ i (h : i < (zp p a n).length), sprlaw7_hex.f k ((zp p a n)[i]'h) = some (hs i)) (P : List Int) (hP : zp p a n = P) (F A B T1_ T2_ : ByteArray) (hF : rF hs 8 = F) (hA : rA hs a 8 = A) (hB : rB hs (a + n) 8 = B) (h1 : ip_Parse6.g k F = some (P, 0)) (h2 : ip_Parse6.g k (A ++ ⟨#[58, 58]⟩ ++ B) = some (P, 0)) (h3 : ip_Parse6.g k ((⟨#[58, 58]⟩ : ByteArray) ++ A ++ ⟨#[58, 58]⟩) = some (zero8, 4)) (h4 : ip_Parse6.g k (F ++ ⟨#[58, 48]⟩) = some (zero8, 4)) :
    Calls Tryd.prog 4 #[.agg (arrV p), .int .i64 (a : Int), .int .i64 (n : Int)] w fun e w' => e = .returned (.bool true) ∧ Below w.heap.size w w' := by
  have HT := Aside0.mk hT
  have hu := Tryd.underlying23
  have hi0 : (Tryd.prog.info? 23).map (·.size) = some (arrV zero8).size := by kernel_rfl
  have T0 := Aside0.mk trivial
  obtain ⟨w0, hw0⟩ : ∃ w0, w0 = w.alloc (.cells (arrV p) 23) := ⟨_, rfl⟩
  have HB0 : Aside0 (Below w.heap.size w w0) := ⟨by rw [hw0]; exact below_alloc (Below.refl _ _) _⟩
  have HRp_0 : Aside0 (w0.heap[w.heap.size]? = some (.cells (arrV p) 23 (0, 0))) := ⟨by rw [hw0]; exact blk_new _ _⟩
  have q1 : decide ((a : Int) < 0) = false := decide_eq_false (by omega)
  have q2 : decide ((n : Int) < 1) = false := decide_eq_false (by omega)
  have q3 : decide (8 < (n : Int)) = false := decide_eq_false (by omega)
  have ew : wrap64 (8 - (n : Int)) = 8 - (n : Int) := by unfold wrap64; omega
  have q4 : decide (8 - (n : Int) < (a : Int)) = false := decide_eq_false (by omega)
  have HN := Aside0.mk hn
  have HAN := Aside0.mk han
  have HP8 := Aside0.mk hp8
  have HX := Aside0.mk hx
  have HZS := Aside0.mk hz
  have HPP := Aside0.mk hP
  have HFF := Aside0.mk hF
  have HAA := Aside0.mk hA
  have HBB := Aside0.mk hB
  have HP8' : Aside0 (P.length = 8) := ⟨by rw [← hP, zp_len, hp8]⟩
  clear hn han hp8 hx hz hP hF hA hB
  go_enter Tryd.func4, Tryd.ntmps4
  go_wp2_with (first | (clear T0; go_at_call 9; rw [← hw0]; clear hw0; (with_reducible refine (sprlaw7_first.calls 0 true _ rfl (Own.ipW_below HT.out HB0.out)).mono ?_); rintro e w1 ⟨rfl, hb⟩; have HB1 := Aside0.mk (HB0.out.trans (hb.mono HB0.out.size)); have HRp_1 := Aside0.mk (blk_below HRp_0.out hb); clear hb HB0 HRp_0; have T1 := Aside0.mk trivial))
  go_loopw [7] (fun v7 wr => ∃ i : Nat, v7 = .int .i64 (i : Int) ∧ Aside0 (i ≤ n) ∧ Aside0 (wr.heap[w.heap.size]? = some (.cells (arrV (zp p a i)) 23 (0, 0))) ∧ Aside0 (Below w.heap.size w wr)) (fun v7 _ => n - (intOf v7).toNat)
  case atStart => exact ⟨0, rfl, ⟨Nat.zero_le _⟩, HRp_1, HB1⟩
  case round =>
    clear HRp_1 HB1 T1 ew q1 q2 q3 q4
    obtain ⟨i, rfl, hi, hZ, hB⟩ := hrel
    have hw1 : wrap64 ((i : Int) + 1) = (i : Int) + 1 := by have := hi.out; have := HAN.out; unfold wrap64; omega
    by_cases hlt : i < n
    · have q5 : decide ((i : Int) < (n : Int)) = true := decide_eq_true (by omega)
      have hw2 : wrap64 ((a : Int) + (i : Int)) = (a : Int) + (i : Int) := by have := HAN.out; unfold wrap64; omega
      have ht : ((a : Int) + (i : Int)).toNat = a + i := by omega
      have p1 := eq_true (show (0 : Int) ≤ (a : Int) + (i : Int) by omega)
      have p2 := eq_true (show (a : Int) + (i : Int) < 8 by have := HAN.out; omega)
      have hcell := ipr_cell hZ.out (a + i) (by rw [zp_len, HP8.out]; have := HAN.out; omega)
      have hfr := blk_frozen hZ.out (a + i)
      have HZ2 := Aside0.mk (ipr_set hZ.out (a + i) 0)
      generalize (zp p a i)[a + i]'_ = y at hcell
      go_wp2
      go_roundw
      case measure => first | exact ipr_meas hlt rfl | exact ipr_meas hlt hw1
      case rel => exact ⟨i + 1, (by first | rfl | (rw [hw1]; rfl)), ⟨hlt⟩, HZ2, ⟨hB.out.setCell (Nat.le_refl _) _⟩⟩
    · have q5 : decide ((i : Int) < (n : Int)) = false := decide_eq_false (by omega)
      have e1 : i = n := by have := hi.out; omega
      subst e1
      have HZ := Aside0.mk hZ.out; rw [HPP.out] at HZ
      clear hw1 hlt hi hZ
      go_wp2
      go_loopw [8, 9, 10, 11] (fun v8 v9 v10 v11 wr => ∃ j : Nat, v8 = .string (rF hs j) ∧ v9 = .string (rA hs a j) ∧ v10 = .string (rB hs (a + i) j) ∧ v11 = .int .i64 (j : Int) ∧ Aside0 (j ≤ 8) ∧ Aside0 (wr.heap[w.heap.size]? = some (.cells (arrV (P)) 23 (0, 0))) ∧ Aside0 (Below w.heap.size w wr)) (fun _ _ _ v11 _ => 8 - (intOf v11).toNat)
      case atStart => exact ⟨0, rfl, rfl, rfl, rfl, ⟨Nat.zero_le _⟩, HZ, hB⟩
      case round =>
        clear HZ hB q5
        obtain ⟨j, rfl, rfl, rfl, rfl, hj, HZ, hB⟩ := hrel
        have hw1 : wrap64 ((j : Int) + 1) = (j : Int) + 1 := by have := hj.out; unfold wrap64; omega
        by_cases hlt : j < 8
        · have q5 : decide ((j : Int) < 8) = true := decide_eq_true (by omega)
          have p1 := eq_true (show (0 : Int) ≤ (j : Int) by omega)
          have p2 := eq_true (show (j : Int) < 8 by omega)
          have hcell := ipr_cell HZ.out j (by rw [HP8'.out]; omega)
          have hxj : Aside0 (sprlaw7_hex.f k (P[j]'(by rw [HP8'.out]; omega)) = some (hs j)) := ⟨by have h_ := HX.out j (by rw [zp_len, HP8.out]; omega); simpa only [HPP.out] using h_⟩
          generalize P[j]'_ = y at hcell hxj
          have hw3 : wrap64 ((a : Int) + (i : Int)) = (a : Int) + (i : Int) := by have := HAN.out; unfold wrap64; omega
          have s1 := rF_size hs HZS.out j; have s2 := rA_size hs HZS.out a j; have s3 := rB_size hs HZS.out (a + i) j; have s4 := HZS.out j
          have HF1 : Aside0 (rF hs (j + 1) = (if 0 < j then rF hs j ++ ⟨#[58]⟩ else rF hs j) ++ hs j) := ⟨rfl⟩
          have HA1 : Aside0 (rA hs a (j + 1) = if j < a then (if 0 < j then rA hs a j ++ ⟨#[58]⟩ else rA hs a j) ++ hs j else rA hs a j) := ⟨rfl⟩
          have HB1 : Aside0 (rB hs (a + i) (j + 1) = if a + i ≤ j then (if (rB hs (a + i) j).toList = [] then rB hs (a + i) j else rB hs (a + i) j ++ ⟨#[58]⟩) ++ hs j else rB hs (a + i) j) := ⟨rfl⟩
          generalize rF hs j = f at HF1 s1 ⊢; generalize rA hs a j = g at HA1 s2 ⊢; generalize rB hs (a + i) j = b at HB1 s3 ⊢; generalize hs j = h at HF1 HA1 HB1 s4 hxj ⊢
          have hc1 : (⟨#[58]⟩ : ByteArray).size = 1 := rfl
          by_cases c1_ : 0 < j
          · skip
            by_cases c2_ : j < a
            · have z1 := eq_true (show f.size + 1 ≤ 9223372036854775807 by omega); have z1' : (9223372036854775807 < f.size + 1) = False := eq_false (by omega); have z2 := eq_true (show f.size + h.size ≤ 9223372036854775807 by omega); have z2' : (9223372036854775807 < f.size + h.size) = False := eq_false (by omega); have z3 := eq_true (show f.size + 1 + h.size ≤ 9223372036854775807 by omega); have z3' : (9223372036854775807 < f.size + 1 + h.size) = False := eq_false (by omega)
              have z4 := eq_true (show g.size + 1 ≤ 9223372036854775807 by omega); have z4' : (9223372036854775807 < g.size + 1) = False := eq_false (by omega); have z5 := eq_true (show g.size + h.size ≤ 9223372036854775807 by omega); have z5' : (9223372036854775807 < g.size + h.size) = False := eq_false (by omega); have z6 := eq_true (show g.size + 1 + h.size ≤ 9223372036854775807 by omega); have z6' : (9223372036854775807 < g.size + 1 + h.size) = False := eq_false (by omega)
              have r1 : decide ((0 : Int) < (j : Int)) = true := decide_eq_true (by omega)
              have r2 : decide ((j : Int) < (a : Int)) = true := decide_eq_true (by omega)
              have r3 : decide ((a : Int) + (i : Int) ≤ (j : Int)) = false := decide_eq_false (by omega)
              have n1 : (0 < j) = True := eq_true (by omega); have n2 : (j < a) = True := eq_true (by omega); have n3 : (a + i ≤ j) = False := eq_false (by omega); have n4 : ((a : Int) + (i : Int) ≤ (j : Int)) = False := eq_false (by omega)
              have E1 : Aside0 (rF hs (j + 1) = f ++ ⟨#[58]⟩ ++ h) := ⟨by rw [HF1.out, if_pos (by omega)]⟩
              have E2 : Aside0 (rA hs a (j + 1) = g ++ ⟨#[58]⟩ ++ h) := ⟨by rw [HA1.out, if_pos (by omega), if_pos (by omega)]⟩
              have E3 : Aside0 (rB hs (a + i) (j + 1) = b) := ⟨by rw [HB1.out, if_neg (by omega)]⟩
              have HZ6 : Aside0 (∀ m, (wr.drewN m).heap[w.heap.size]? = some (.cells (arrV P) 23 (0, 0))) := ⟨fun m => blk_drewN HZ.out m⟩
              have HB6 : Aside0 (∀ m, Below w.heap.size w (wr.drewN m)) := ⟨fun m => pw_below_drewN hB.out m⟩
              clear HF1 HA1 HB1 s1 s2 s3 s4
              have HLT := Aside0.mk hlt; clear hlt c1_ c2_
              have T5 := Aside0.mk trivial
              go_wp2_with (first | (clear T5; go_at_call 11; (with_reducible refine (sprlaw7_hex.calls k _ _ _ hxj.out).mono ?_); rintro e w6 ⟨rfl, m, rfl⟩; have T6 := Aside0.mk trivial))
              go_roundw
              case measure => first | exact ipr_meas HLT.out rfl | exact ipr_meas HLT.out hw1
              case rel => exact ⟨j + 1, by rw [E1.out], by rw [E2.out], by rw [E3.out], (by first | rfl | (rw [hw1]; rfl)), ⟨HLT.out⟩, ⟨HZ6.out _⟩, ⟨HB6.out _⟩⟩
            · by_cases c3_ : a + i ≤ j
              · by_cases hbe : b.toList = ([] : List UInt8)
                · have z1 := eq_true (show f.size + 1 ≤ 9223372036854775807 by omega); have z1' : (9223372036854775807 < f.size + 1) = False := eq_false (by omega); have z2 := eq_true (show f.size + h.size ≤ 9223372036854775807 by omega); have z2' : (9223372036854775807 < f.size + h.size) = False := eq_false (by omega); have z3 := eq_true (show f.size + 1 + h.size ≤ 9223372036854775807 by omega); have z3' : (9223372036854775807 < f.size + 1 + h.size) = False := eq_false (by omega)
                  have z7 := eq_true (show b.size + 1 ≤ 9223372036854775807 by omega); have z7' : (9223372036854775807 < b.size + 1) = False := eq_false (by omega); have z8 := eq_true (show b.size + h.size ≤ 9223372036854775807 by omega); have z8' : (9223372036854775807 < b.size + h.size) = False := eq_false (by omega); have z9 := eq_true (show b.size + 1 + h.size ≤ 9223372036854775807 by omega); have z9' : (9223372036854775807 < b.size + 1 + h.size) = False := eq_false (by omega)
                  have r1 : decide ((0 : Int) < (j : Int)) = true := decide_eq_true (by omega)
                  have r2 : decide ((j : Int) < (a : Int)) = false := decide_eq_false (by omega)
                  have r3 : decide ((a : Int) + (i : Int) ≤ (j : Int)) = true := decide_eq_true (by omega)
                  have n1 : (0 < j) = True := eq_true (by omega); have n2 : (j < a) = False := eq_false (by omega); have n3 : (a + i ≤ j) = True := eq_true (by omega); have n4 : ((a : Int) + (i : Int) ≤ (j : Int)) = True := eq_true (by omega)
                  have r4 : (b.toList == ([] : List UInt8)) = true := beq_iff_eq.2 hbe; have r5 : (b.toList != ([] : List UInt8)) = false := bne_eq_false_iff_eq.2 hbe
                  have E1 : Aside0 (rF hs (j + 1) = f ++ ⟨#[58]⟩ ++ h) := ⟨by rw [HF1.out, if_pos (by omega)]⟩
                  have E2 : Aside0 (rA hs a (j + 1) = g) := ⟨by rw [HA1.out, if_neg (by omega)]⟩
                  have E3 : Aside0 (rB hs (a + i) (j + 1) = b ++ h) := ⟨by rw [HB1.out, if_pos (by omega), if_pos hbe]⟩
                  have HZ6 : Aside0 (∀ m, (wr.drewN m).heap[w.heap.size]? = some (.cells (arrV P) 23 (0, 0))) := ⟨fun m => blk_drewN HZ.out m⟩
                  have HB6 : Aside0 (∀ m, Below w.heap.size w (wr.drewN m)) := ⟨fun m => pw_below_drewN hB.out m⟩
                  clear HF1 HA1 HB1 s1 s2 s3 s4 hbe
                  have HLT := Aside0.mk hlt; clear hlt c1_ c2_ c3_
                  have T5 := Aside0.mk trivial
                  go_wp2_with (first | (clear T5; go_at_call 11; (with_reducible refine (sprlaw7_hex.calls k _ _ _ hxj.out).mono ?_); rintro e w6 ⟨rfl, m, rfl⟩; have T6 := Aside0.mk trivial))
                  go_roundw
                  case measure => first | exact ipr_meas HLT.out rfl | exact ipr_meas HLT.out hw1
                  case rel => exact ⟨j + 1, by rw [E1.out], by rw [E2.out], by rw [E3.out], (by first | rfl | (rw [hw1]; rfl)), ⟨HLT.out⟩, ⟨HZ6.out _⟩, ⟨HB6.out _⟩⟩
                · have z1 := eq_true (show f.size + 1 ≤ 9223372036854775807 by omega); have z1' : (9223372036854775807 < f.size + 1) = False := eq_false (by omega); have z2 := eq_true (show f.size + h.size ≤ 9223372036854775807 by omega); have z2' : (9223372036854775807 < f.size + h.size) = False := eq_false (by omega); have z3 := eq_true (show f.size + 1 + h.size ≤ 9223372036854775807 by omega); have z3' : (9223372036854775807 < f.size + 1 + h.size) = False := eq_false (by omega)
                  have z7 := eq_true (show b.size + 1 ≤ 9223372036854775807 by omega); have z7' : (9223372036854775807 < b.size + 1) = False := eq_false (by omega); have z8 := eq_true (show b.size + h.size ≤ 9223372036854775807 by omega); have z8' : (9223372036854775807 < b.size + h.size) = False := eq_false (by omega); have z9 := eq_true (show b.size + 1 + h.size ≤ 9223372036854775807 by omega); have z9' : (9223372036854775807 < b.size + 1 + h.size) = False := eq_false (by omega)
                  have r1 : decide ((0 : Int) < (j : Int)) = true := decide_eq_true (by omega)
                  have r2 : decide ((j : Int) < (a : Int)) = false := decide_eq_false (by omega)
                  have r3 : decide ((a : Int) + (i : Int) ≤ (j : Int)) = true := decide_eq_true (by omega)
                  have n1 : (0 < j) = True := eq_true (by omega); have n2 : (j < a) = False := eq_false (by omega); have n3 : (a + i ≤ j) = True := eq_true (by omega); have n4 : ((a : Int) + (i : Int) ≤ (j : Int)) = True := eq_true (by omega)
                  have r4 : (b.toList == ([] : List UInt8)) = false := beq_eq_false_iff_ne.2 hbe; have r5 : (b.toList != ([] : List UInt8)) = true := bne_iff_ne.2 hbe
                  have E1 : Aside0 (rF hs (j + 1) = f ++ ⟨#[58]⟩ ++ h) := ⟨by rw [HF1.out, if_pos (by omega)]⟩
                  have E2 : Aside0 (rA hs a (j + 1) = g) := ⟨by rw [HA1.out, if_neg (by omega)]⟩
                  have E3 : Aside0 (rB hs (a + i) (j + 1) = b ++ ⟨#[58]⟩ ++ h) := ⟨by rw [HB1.out, if_pos (by omega), if_neg hbe]⟩
                  have HZ6 : Aside0 (∀ m, (wr.drewN m).heap[w.heap.size]? = some (.cells (arrV P) 23 (0, 0))) := ⟨fun m => blk_drewN HZ.out m⟩
                  have HB6 : Aside0 (∀ m, Below w.heap.size w (wr.drewN m)) := ⟨fun m => pw_below_drewN hB.out m⟩
                  clear HF1 HA1 HB1 s1 s2 s3 s4 hbe
                  have HLT := Aside0.mk hlt; clear hlt c1_ c2_ c3_
                  have T5 := Aside0.mk trivial
                  go_wp2_with (first | (clear T5; go_at_call 11; (with_reducible refine (sprlaw7_hex.calls k _ _ _ hxj.out).mono ?_); rintro e w6 ⟨rfl, m, rfl⟩; have T6 := Aside0.mk trivial))
                  go_roundw
                  case measure => first | exact ipr_meas HLT.out rfl | exact ipr_meas HLT.out hw1
                  case rel => exact ⟨j + 1, by rw [E1.out], by rw [E2.out], by rw [E3.out], (by first | rfl | (rw [hw1]; rfl)), ⟨HLT.out⟩, ⟨HZ6.out _⟩, ⟨HB6.out _⟩⟩
              · have z1 := eq_true (show f.size + 1 ≤ 9223372036854775807 by omega); have z1' : (9223372036854775807 < f.size + 1) = False := eq_false (by omega); have z2 := eq_true (show f.size + h.size ≤ 9223372036854775807 by omega); have z2' : (9223372036854775807 < f.size + h.size) = False := eq_false (by omega); have z3 := eq_true (show f.size + 1 + h.size ≤ 9223372036854775807 by omega); have z3' : (9223372036854775807 < f.size + 1 + h.size) = False := eq_false (by omega)
                have r1 : decide ((0 : Int) < (j : Int)) = true := decide_eq_true (by omega)
                have r2 : decide ((j : Int) < (a : Int)) = false := decide_eq_false (by omega)
                have r3 : decide ((a : Int) + (i : Int) ≤ (j : Int)) = false := decide_eq_false (by omega)
                have n1 : (0 < j) = True := eq_true (by omega); have n2 : (j < a) = False := eq_false (by omega); have n3 : (a + i ≤ j) = False := eq_false (by omega); have n4 : ((a : Int) + (i : Int) ≤ (j : Int)) = False := eq_false (by omega)
                have E1 : Aside0 (rF hs (j + 1) = f ++ ⟨#[58]⟩ ++ h) := ⟨by rw [HF1.out, if_pos (by omega)]⟩
                have E2 : Aside0 (rA hs a (j + 1) = g) := ⟨by rw [HA1.out, if_neg (by omega)]⟩
                have E3 : Aside0 (rB hs (a + i) (j + 1) = b) := ⟨by rw [HB1.out, if_neg (by omega)]⟩
                have HZ6 : Aside0 (∀ m, (wr.drewN m).heap[w.heap.size]? = some (.cells (arrV P) 23 (0, 0))) := ⟨fun m => blk_drewN HZ.out m⟩
                have HB6 : Aside0 (∀ m, Below w.heap.size w (wr.drewN m)) := ⟨fun m => pw_below_drewN hB.out m⟩
                clear HF1 HA1 HB1 s1 s2 s3 s4
                have HLT := Aside0.mk hlt; clear hlt c1_ c2_ c3_
                have T5 := Aside0.mk trivial
                go_wp2_with (first | (clear T5; go_at_call 11; (with_reducible refine (sprlaw7_hex.calls k _ _ _ hxj.out).mono ?_); rintro e w6 ⟨rfl, m, rfl⟩; have T6 := Aside0.mk trivial))
                go_roundw
                case measure => first | exact ipr_meas HLT.out rfl | exact ipr_meas HLT.out hw1
                case rel => exact ⟨j + 1, by rw [E1.out], by rw [E2.out], by rw [E3.out], (by first | rfl | (rw [hw1]; rfl)), ⟨HLT.out⟩, ⟨HZ6.out _⟩, ⟨HB6.out _⟩⟩
          · skip
            by_cases c2_ : j < a
            · have z1 := eq_true (show f.size + 1 ≤ 9223372036854775807 by omega); have z1' : (9223372036854775807 < f.size + 1) = False := eq_false (by omega); have z2 := eq_true (show f.size + h.size ≤ 9223372036854775807 by omega); have z2' : (9223372036854775807 < f.size + h.size) = False := eq_false (by omega); have z3 := eq_true (show f.size + 1 + h.size ≤ 9223372036854775807 by omega); have z3' : (9223372036854775807 < f.size + 1 + h.size) = False := eq_false (by omega)
              have z4 := eq_true (show g.size + 1 ≤ 9223372036854775807 by omega); have z4' : (9223372036854775807 < g.size + 1) = False := eq_false (by omega); have z5 := eq_true (show g.size + h.size ≤ 9223372036854775807 by omega); have z5' : (9223372036854775807 < g.size + h.size) = False := eq_false (by omega); have z6 := eq_true (show g.size + 1 + h.size ≤ 9223372036854775807 by omega); have z6' : (9223372036854775807 < g.size + 1 + h.size) = False := eq_false (by omega)
              have r1 : decide ((0 : Int) < (j : Int)) = false := decide_eq_false (by omega)
              have r2 : decide ((j : Int) < (a : Int)) = true := decide_eq_true (by omega)
              have r3 : decide ((a : Int) + (i : Int) ≤ (j : Int)) = false := decide_eq_false (by omega)
              have n1 : (0 < j) = False := eq_false (by omega); have n2 : (j < a) = True := eq_true (by omega); have n3 : (a + i ≤ j) = False := eq_false (by omega); have n4 : ((a : Int) + (i : Int) ≤ (j : Int)) = False := eq_false (by omega)
              have E1 : Aside0 (rF hs (j + 1) = f ++ h) := ⟨by rw [HF1.out, if_neg (by omega)]⟩
              have E2 : Aside0 (rA hs a (j + 1) = g ++ h) := ⟨by rw [HA1.out, if_pos (by omega), if_neg (by omega)]⟩
              have E3 : Aside0 (rB hs (a + i) (j + 1) = b) := ⟨by rw [HB1.out, if_neg (by omega)]⟩
              have HZ6 : Aside0 (∀ m, (wr.drewN m).heap[w.heap.size]? = some (.cells (arrV P) 23 (0, 0))) := ⟨fun m => blk_drewN HZ.out m⟩
              have HB6 : Aside0 (∀ m, Below w.heap.size w (wr.drewN m)) := ⟨fun m => pw_below_drewN hB.out m⟩
              clear HF1 HA1 HB1 s1 s2 s3 s4
              have HLT := Aside0.mk hlt; clear hlt c1_ c2_
              have T5 := Aside0.mk trivial
              go_wp2_with (first | (clear T5; go_at_call 11; (with_reducible refine (sprlaw7_hex.calls k _ _ _ hxj.out).mono ?_); rintro e w6 ⟨rfl, m, rfl⟩; have T6 := Aside0.mk trivial))
              go_roundw
              case measure => first | exact ipr_meas HLT.out rfl | exact ipr_meas HLT.out hw1
              case rel => exact ⟨j + 1, by rw [E1.out], by rw [E2.out], by rw [E3.out], (by first | rfl | (rw [hw1]; rfl)), ⟨HLT.out⟩, ⟨HZ6.out _⟩, ⟨HB6.out _⟩⟩
            · by_cases c3_ : a + i ≤ j
              · by_cases hbe : b.toList = ([] : List UInt8)
                · have z1 := eq_true (show f.size + 1 ≤ 9223372036854775807 by omega); have z1' : (9223372036854775807 < f.size + 1) = False := eq_false (by omega); have z2 := eq_true (show f.size + h.size ≤ 9223372036854775807 by omega); have z2' : (9223372036854775807 < f.size + h.size) = False := eq_false (by omega); have z3 := eq_true (show f.size + 1 + h.size ≤ 9223372036854775807 by omega); have z3' : (9223372036854775807 < f.size + 1 + h.size) = False := eq_false (by omega)
                  have z7 := eq_true (show b.size + 1 ≤ 9223372036854775807 by omega); have z7' : (9223372036854775807 < b.size + 1) = False := eq_false (by omega); have z8 := eq_true (show b.size + h.size ≤ 9223372036854775807 by omega); have z8' : (9223372036854775807 < b.size + h.size) = False := eq_false (by omega); have z9 := eq_true (show b.size + 1 + h.size ≤ 9223372036854775807 by omega); have z9' : (9223372036854775807 < b.size + 1 + h.size) = False := eq_false (by omega)
                  have r1 : decide ((0 : Int) < (j : Int)) = false := decide_eq_false (by omega)
                  have r2 : decide ((j : Int) < (a : Int)) = false := decide_eq_false (by omega)
                  have r3 : decide ((a : Int) + (i : Int) ≤ (j : Int)) = true := decide_eq_true (by omega)
                  have n1 : (0 < j) = False := eq_false (by omega); have n2 : (j < a) = False := eq_false (by omega); have n3 : (a + i ≤ j) = True := eq_true (by omega); have n4 : ((a : Int) + (i : Int) ≤ (j : Int)) = True := eq_true (by omega)
                  have r4 : (b.toList == ([] : List UInt8)) = true := beq_iff_eq.2 hbe; have r5 : (b.toList != ([] : List UInt8)) = false := bne_eq_false_iff_eq.2 hbe
                  have E1 : Aside0 (rF hs (j + 1) = f ++ h) := ⟨by rw [HF1.out, if_neg (by omega)]⟩
                  have E2 : Aside0 (rA hs a (j + 1) = g) := ⟨by rw [HA1.out, if_neg (by omega)]⟩
                  have E3 : Aside0 (rB hs (a + i) (j + 1) = b ++ h) := ⟨by rw [HB1.out, if_pos (by omega), if_pos hbe]⟩
                  have HZ6 : Aside0 (∀ m, (wr.drewN m).heap[w.heap.size]? = some (.cells (arrV P) 23 (0, 0))) := ⟨fun m => blk_drewN HZ.out m⟩
                  have HB6 : Aside0 (∀ m, Below w.heap.size w (wr.drewN m)) := ⟨fun m => pw_below_drewN hB.out m⟩
                  clear HF1 HA1 HB1 s1 s2 s3 s4 hbe
                  have HLT := Aside0.mk hlt; clear hlt c1_ c2_ c3_
                  have T5 := Aside0.mk trivial
                  go_wp2_with (first | (clear T5; go_at_call 11; (with_reducible refine (sprlaw7_hex.calls k _ _ _ hxj.out).mono ?_); rintro e w6 ⟨rfl, m, rfl⟩; have T6 := Aside0.mk trivial))
                  go_roundw
                  case measure => first | exact ipr_meas HLT.out rfl | exact ipr_meas HLT.out hw1
                  case rel => exact ⟨j + 1, by rw [E1.out], by rw [E2.out], by rw [E3.out], (by first | rfl | (rw [hw1]; rfl)), ⟨HLT.out⟩, ⟨HZ6.out _⟩, ⟨HB6.out _⟩⟩
                · have z1 := eq_true (show f.size + 1 ≤ 9223372036854775807 by omega); have z1' : (9223372036854775807 < f.size + 1) = False := eq_false (by omega); have z2 := eq_true (show f.size + h.size ≤ 9223372036854775807 by omega); have z2' : (9223372036854775807 < f.size + h.size) = False := eq_false (by omega); have z3 := eq_true (show f.size + 1 + h.size ≤ 9223372036854775807 by omega); have z3' : (9223372036854775807 < f.size + 1 + h.size) = False := eq_false (by omega)
                  have z7 := eq_true (show b.size + 1 ≤ 9223372036854775807 by omega); have z7' : (9223372036854775807 < b.size + 1) = False := eq_false (by omega); have z8 := eq_true (show b.size + h.size ≤ 9223372036854775807 by omega); have z8' : (9223372036854775807 < b.size + h.size) = False := eq_false (by omega); have z9 := eq_true (show b.size + 1 + h.size ≤ 9223372036854775807 by omega); have z9' : (9223372036854775807 < b.size + 1 + h.size) = False := eq_false (by omega)
                  have r1 : decide ((0 : Int) < (j : Int)) = false := decide_eq_false (by omega)
                  have r2 : decide ((j : Int) < (a : Int)) = false := decide_eq_false (by omega)
                  have r3 : decide ((a : Int) + (i : Int) ≤ (j : Int)) = true := decide_eq_true (by omega)
                  have n1 : (0 < j) = False := eq_false (by omega); have n2 : (j < a) = False := eq_false (by omega); have n3 : (a + i ≤ j) = True := eq_true (by omega); have n4 : ((a : Int) + (i : Int) ≤ (j : Int)) = True := eq_true (by omega)
                  have r4 : (b.toList == ([] : List UInt8)) = false := beq_eq_false_iff_ne.2 hbe; have r5 : (b.toList != ([] : List UInt8)) = true := bne_iff_ne.2 hbe
                  have E1 : Aside0 (rF hs (j + 1) = f ++ h) := ⟨by rw [HF1.out, if_neg (by omega)]⟩
                  have E2 : Aside0 (rA hs a (j + 1) = g) := ⟨by rw [HA1.out, if_neg (by omega)]⟩
                  have E3 : Aside0 (rB hs (a + i) (j + 1) = b ++ ⟨#[58]⟩ ++ h) := ⟨by rw [HB1.out, if_pos (by omega), if_neg hbe]⟩
                  have HZ6 : Aside0 (∀ m, (wr.drewN m).heap[w.heap.size]? = some (.cells (arrV P) 23 (0, 0))) := ⟨fun m => blk_drewN HZ.out m⟩
                  have HB6 : Aside0 (∀ m, Below w.heap.size w (wr.drewN m)) := ⟨fun m => pw_below_drewN hB.out m⟩
                  clear HF1 HA1 HB1 s1 s2 s3 s4 hbe
                  have HLT := Aside0.mk hlt; clear hlt c1_ c2_ c3_
                  have T5 := Aside0.mk trivial
                  go_wp2_with (first | (clear T5; go_at_call 11; (with_reducible refine (sprlaw7_hex.calls k _ _ _ hxj.out).mono ?_); rintro e w6 ⟨rfl, m, rfl⟩; have T6 := Aside0.mk trivial))
                  go_roundw
                  case measure => first | exact ipr_meas HLT.out rfl | exact ipr_meas HLT.out hw1
                  case rel => exact ⟨j + 1, by rw [E1.out], by rw [E2.out], by rw [E3.out], (by first | rfl | (rw [hw1]; rfl)), ⟨HLT.out⟩, ⟨HZ6.out _⟩, ⟨HB6.out _⟩⟩
              · have z1 := eq_true (show f.size + 1 ≤ 9223372036854775807 by omega); have z1' : (9223372036854775807 < f.size + 1) = False := eq_false (by omega); have z2 := eq_true (show f.size + h.size ≤ 9223372036854775807 by omega); have z2' : (9223372036854775807 < f.size + h.size) = False := eq_false (by omega); have z3 := eq_true (show f.size + 1 + h.size ≤ 9223372036854775807 by omega); have z3' : (9223372036854775807 < f.size + 1 + h.size) = False := eq_false (by omega)
                have r1 : decide ((0 : Int) < (j : Int)) = false := decide_eq_false (by omega)
                have r2 : decide ((j : Int) < (a : Int)) = false := decide_eq_false (by omega)
                have r3 : decide ((a : Int) + (i : Int) ≤ (j : Int)) = false := decide_eq_false (by omega)
                have n1 : (0 < j) = False := eq_false (by omega); have n2 : (j < a) = False := eq_false (by omega); have n3 : (a + i ≤ j) = False := eq_false (by omega); have n4 : ((a : Int) + (i : Int) ≤ (j : Int)) = False := eq_false (by omega)
                have E1 : Aside0 (rF hs (j + 1) = f ++ h) := ⟨by rw [HF1.out, if_neg (by omega)]⟩
                have E2 : Aside0 (rA hs a (j + 1) = g) := ⟨by rw [HA1.out, if_neg (by omega)]⟩
                have E3 : Aside0 (rB hs (a + i) (j + 1) = b) := ⟨by rw [HB1.out, if_neg (by omega)]⟩
                have HZ6 : Aside0 (∀ m, (wr.drewN m).heap[w.heap.size]? = some (.cells (arrV P) 23 (0, 0))) := ⟨fun m => blk_drewN HZ.out m⟩
                have HB6 : Aside0 (∀ m, Below w.heap.size w (wr.drewN m)) := ⟨fun m => pw_below_drewN hB.out m⟩
                clear HF1 HA1 HB1 s1 s2 s3 s4
                have HLT := Aside0.mk hlt; clear hlt c1_ c2_ c3_
                have T5 := Aside0.mk trivial
                go_wp2_with (first | (clear T5; go_at_call 11; (with_reducible refine (sprlaw7_hex.calls k _ _ _ hxj.out).mono ?_); rintro e w6 ⟨rfl, m, rfl⟩; have T6 := Aside0.mk trivial))
                go_roundw
                case measure => first | exact ipr_meas HLT.out rfl | exact ipr_meas HLT.out hw1
                case rel => exact ⟨j + 1, by rw [E1.out], by rw [E2.out], by rw [E3.out], (by first | rfl | (rw [hw1]; rfl)), ⟨HLT.out⟩, ⟨HZ6.out _⟩, ⟨HB6.out _⟩⟩
        · have q5 : decide ((j : Int) < 8) = false := decide_eq_false (by omega)
          have e8 : j = 8 := by have := hj.out; omega
          subst e8
          rw [HFF.out, HAA.out, HBB.out]
          have s1 : F.size ≤ 808 := by have := rF_size hs HZS.out 8; rw [HFF.out] at this; omega
          have s2 : A.size ≤ 808 := by have := rA_size hs HZS.out a 8; rw [HAA.out] at this; omega
          have s3 : B.size ≤ 808 := by have := rB_size hs HZS.out (a + i) 8; rw [HBB.out] at this; omega
          have hc2 : (⟨#[58, 58]⟩ : ByteArray).size = 2 := rfl; have hc3 : (⟨#[58, 48]⟩ : ByteArray).size = 2 := rfl
          have y0 := eq_true (show A.size + 2 ≤ 9223372036854775807 by omega); have y0' : (9223372036854775807 < A.size + 2) = False := eq_false (by omega); have y1 := eq_true (show A.size + 2 + B.size ≤ 9223372036854775807 by omega); have y1' : (9223372036854775807 < A.size + 2 + B.size) = False := eq_false (by omega); have y2 := eq_true (show 2 + A.size ≤ 9223372036854775807 by omega); have y2' : (9223372036854775807 < 2 + A.size) = False := eq_false (by omega); have y3 := eq_true (show 2 + A.size + 2 ≤ 9223372036854775807 by omega); have y3' : (9223372036854775807 < 2 + A.size + 2) = False := eq_false (by omega); have y4 := eq_true (show F.size + 2 ≤ 9223372036854775807 by omega); have y4' : (9223372036854775807 < F.size + 2) = False := eq_false (by omega)
          clear s1 s2 s3 hw1 hlt hj
          obtain ⟨w5, rfl⟩ : ∃ x, x = wr := ⟨_, rfl⟩; have HRp_5 := HZ; have HB5 := hB; clear HZ hB; have T5 := Aside0.mk trivial
          have hip : Aside0 ((Tryd.prog.info? 23).map (·.size) = some (arrV P).size) := ⟨by rw [arr_size, HP8'.out]; kernel_rfl⟩; have hsp : Aside0 ((arrV zero8).size = (arrV P).size) := ⟨by rw [arr_size, arr_size, HP8'.out]; rfl⟩
          have heq := fun w' => arr_eq (P := Tryd.prog) (t := 23) (e := 22) (n := 8) Tryd.underlying23 Tryd.underlying22 (fun _ => by kernel_rfl) (fun _ => by kernel_rfl) 9998 P P HP8'.out HP8'.out w'
          rw [decide_eq_true (rfl : P = P)] at heq
          go_wp2_with (first | (clear T5; go_at_call 12; (with_reducible refine (ip_Parse6.gcalls k F P 0 _ h1 (Own.ipW_below HT.out HB5.out)).mono ?_); rintro e w6 ⟨rfl, hb⟩; have HB6 := Aside0.mk (HB5.out.trans (hb.mono HB5.out.size)); have HRp_6 := Aside0.mk (blk_below HRp_5.out hb); clear hb HB5 HRp_5; have T6 := Aside0.mk trivial) | (clear T6; (with_reducible refine gate_store (t := 23) (p := 13) rfl ?_); refine wpList_store_row rfl 23 (.tmp 13) (.tmp 89) rfl w6.heap.size (arrV P) rfl rfl 23 (arrV zero8) (blk_new _ _) hip.out hsp.out (arr_one _) ?_; rw [show (w6.alloc (.cells #[Value.int IntKind.u16 0, Value.int IntKind.u16 0, Value.int IntKind.u16 0, Value.int IntKind.u16 0, Value.int IntKind.u16 0, Value.int IntKind.u16 0, Value.int IntKind.u16 0, Value.int IntKind.u16 0] 23)).setRow w6.heap.size (arrV P) = w6.alloc (.cells (arrV P) 23) from Own.alloc_setRow _ _ _ _]; obtain ⟨w7, hw⟩ : ∃ v, v = w6.alloc (.cells (arrV P) 23) := ⟨_, rfl⟩; rw [← hw]; have HB7 := Aside0.mk (hw ▸ below_alloc HB6.out _ : Below w.heap.size w w7); have HRp_7 := Aside0.mk (hw ▸ blk_alloc HRp_6.out _ : w7.heap[w.heap.size]? = some (.cells (arrV P) 23 (0, 0))); have HRa_7 := Aside0.mk (hw ▸ blk_new w6 _ : w7.heap[w6.heap.size]? = some (.cells (arrV P) 23 (0, 0))); clear hw HB6 HRp_6; have T7 := Aside0.mk trivial) | (clear T7; go_at_call 12; (with_reducible refine (ip_Parse6.gcalls k (A ++ ⟨#[58, 58]⟩ ++ B) P 0 _ h2 (Own.ipW_below HT.out HB7.out)).mono ?_); rintro e w8 ⟨rfl, hb⟩; have HB8 := Aside0.mk (HB7.out.trans (hb.mono HB7.out.size)); have HRp_8 := Aside0.mk (blk_below HRp_7.out hb); have HRa_8 := Aside0.mk (blk_below HRa_7.out hb); clear hb HB7 HRp_7 HRa_7; have T8 := Aside0.mk trivial) | (clear T8; (with_reducible refine gate_store (t := 23) (p := 15) rfl ?_); refine wpList_store_row rfl 23 (.tmp 15) (.tmp 97) rfl w8.heap.size (arrV P) rfl rfl 23 (arrV zero8) (blk_new _ _) hip.out hsp.out (arr_one _) ?_; rw [show (w8.alloc (.cells #[Value.int IntKind.u16 0, Value.int IntKind.u16 0, Value.int IntKind.u16 0, Value.int IntKind.u16 0, Value.int IntKind.u16 0, Value.int IntKind.u16 0, Value.int IntKind.u16 0, Value.int IntKind.u16 0] 23)).setRow w8.heap.size (arrV P) = w8.alloc (.cells (arrV P) 23) from Own.alloc_setRow _ _ _ _]; obtain ⟨w9, hw⟩ : ∃ v, v = w8.alloc (.cells (arrV P) 23) := ⟨_, rfl⟩; rw [← hw]; have HB9 := Aside0.mk (hw ▸ below_alloc HB8.out _ : Below w.heap.size w w9); have HRp_9 := Aside0.mk (hw ▸ blk_alloc HRp_8.out _ : w9.heap[w.heap.size]? = some (.cells (arrV P) 23 (0, 0))); have HRa_9 := Aside0.mk (hw ▸ blk_alloc HRa_8.out _ : w9.heap[w6.heap.size]? = some (.cells (arrV P) 23 (0, 0))); have HRb_9 := Aside0.mk (hw ▸ blk_new w8 _ : w9.heap[w8.heap.size]? = some (.cells (arrV P) 23 (0, 0))); clear hw HB8 HRp_8 HRa_8; have T9 := Aside0.mk trivial) | (clear T9; go_at_call 12; (with_reducible refine (ip_Parse6.gcalls k ((⟨#[58, 58]⟩ : ByteArray) ++ A ++ ⟨#[58, 58]⟩) zero8 4 _ h3 (Own.ipW_below HT.out HB9.out)).mono ?_); rintro e w10 ⟨rfl, hb⟩; have HB10 := Aside0.mk (HB9.out.trans (hb.mono HB9.out.size)); have HRp_10 := Aside0.mk (blk_below HRp_9.out hb); have HRa_10 := Aside0.mk (blk_below HRa_9.out hb); have HRb_10 := Aside0.mk (blk_below HRb_9.out hb); clear hb HB9 HRp_9 HRa_9 HRb_9; have T10 := Aside0.mk trivial) | (clear T10; (with_reducible refine gate_store (t := 23) (p := 17) rfl ?_); refine wpList_store_row rfl 23 (.tmp 17) (.tmp 104) rfl w10.heap.size (arrV zero8) rfl rfl 23 (arrV zero8) (blk_new _ _) hi0 rfl (arr_one _) ?_; rw [show (w10.alloc (.cells #[Value.int IntKind.u16 0, Value.int IntKind.u16 0, Value.int IntKind.u16 0, Value.int IntKind.u16 0, Value.int IntKind.u16 0, Value.int IntKind.u16 0, Value.int IntKind.u16 0, Value.int IntKind.u16 0] 23)).setRow w10.heap.size (arrV zero8) = w10.alloc (.cells (arrV zero8) 23) from Own.alloc_setRow _ _ _ _]; obtain ⟨w11, hw⟩ : ∃ v, v = w10.alloc (.cells (arrV zero8) 23) := ⟨_, rfl⟩; rw [← hw]; have HB11 := Aside0.mk (hw ▸ below_alloc HB10.out _ : Below w.heap.size w w11); have HRp_11 := Aside0.mk (hw ▸ blk_alloc HRp_10.out _ : w11.heap[w.heap.size]? = some (.cells (arrV P) 23 (0, 0))); have HRa_11 := Aside0.mk (hw ▸ blk_alloc HRa_10.out _ : w11.heap[w6.heap.size]? = some (.cells (arrV P) 23 (0, 0))); have HRb_11 := Aside0.mk (hw ▸ blk_alloc HRb_10.out _ : w11.heap[w8.heap.size]? = some (.cells (arrV P) 23 (0, 0))); have HRc_11 := Aside0.mk (hw ▸ blk_new w10 _ : w11.heap[w10.heap.size]? = some (.cells (arrV zero8) 23 (0, 0))); clear hw HB10 HRp_10 HRa_10 HRb_10; have T11 := Aside0.mk trivial) | (clear T11; go_at_call 12; (with_reducible refine (ip_Parse6.gcalls k (F ++ ⟨#[58, 48]⟩) zero8 4 _ h4 (Own.ipW_below HT.out HB11.out)).mono ?_); rintro e w12 ⟨rfl, hb⟩; have HB12 := Aside0.mk (HB11.out.trans (hb.mono HB11.out.size)); have HRp_12 := Aside0.mk (blk_below HRp_11.out hb); have HRa_12 := Aside0.mk (blk_below HRa_11.out hb); have HRb_12 := Aside0.mk (blk_below HRb_11.out hb); have HRc_12 := Aside0.mk (blk_below HRc_11.out hb); clear hb HB11 HRp_11 HRa_11 HRb_11 HRc_11; have T12 := Aside0.mk trivial) | (clear T12; (with_reducible refine gate_store (t := 23) (p := 19) rfl ?_); refine wpList_store_row rfl 23 (.tmp 19) (.tmp 110) rfl w12.heap.size (arrV zero8) rfl rfl 23 (arrV zero8) (blk_new _ _) hi0 rfl (arr_one _) ?_; rw [show (w12.alloc (.cells #[Value.int IntKind.u16 0, Value.int IntKind.u16 0, Value.int IntKind.u16 0, Value.int IntKind.u16 0, Value.int IntKind.u16 0, Value.int IntKind.u16 0, Value.int IntKind.u16 0, Value.int IntKind.u16 0] 23)).setRow w12.heap.size (arrV zero8) = w12.alloc (.cells (arrV zero8) 23) from Own.alloc_setRow _ _ _ _]; obtain ⟨w13, hw⟩ : ∃ v, v = w12.alloc (.cells (arrV zero8) 23) := ⟨_, rfl⟩; rw [← hw]; have HB13 := Aside0.mk (hw ▸ below_alloc HB12.out _ : Below w.heap.size w w13); have HRp_13 := Aside0.mk (hw ▸ blk_alloc HRp_12.out _ : w13.heap[w.heap.size]? = some (.cells (arrV P) 23 (0, 0))); have HRa_13 := Aside0.mk (hw ▸ blk_alloc HRa_12.out _ : w13.heap[w6.heap.size]? = some (.cells (arrV P) 23 (0, 0))); have HRb_13 := Aside0.mk (hw ▸ blk_alloc HRb_12.out _ : w13.heap[w8.heap.size]? = some (.cells (arrV P) 23 (0, 0))); have HRc_13 := Aside0.mk (hw ▸ blk_alloc HRc_12.out _ : w13.heap[w10.heap.size]? = some (.cells (arrV zero8) 23 (0, 0))); have HRd_13 := Aside0.mk (hw ▸ blk_new w12 _ : w13.heap[w12.heap.size]? = some (.cells (arrV zero8) 23 (0, 0))); clear hw HB12 HRp_12 HRa_12 HRb_12 HRc_12; have T13 := Aside0.mk trivial) | (clear T13; go_at_call 9; (with_reducible refine (sprlaw7_first.calls 0 true _ rfl (Own.ipW_below HT.out HB13.out)).mono ?_); rintro e w14 ⟨rfl, hb⟩; have HB14 := Aside0.mk (HB13.out.trans (hb.mono HB13.out.size)); have HRp_14 := Aside0.mk (blk_below HRp_13.out hb); have HRa_14 := Aside0.mk (blk_below HRa_13.out hb); have HRb_14 := Aside0.mk (blk_below HRb_13.out hb); have HRc_14 := Aside0.mk (blk_below HRc_13.out hb); have HRd_14 := Aside0.mk (blk_below HRd_13.out hb); clear hb HB13 HRp_13 HRa_13 HRb_13 HRc_13 HRd_13; have T14 := Aside0.mk trivial) | ((with_reducible refine gate_dst (N := 118) rfl ?_); refine gate_guard (by rfl) ?_; refine wpList_load_row rfl 23 (.tmp 13) rfl w6.heap.size rfl 23 (arrV P) (0, 0) _ HRa_14.out hu rfl hip.out ?_) | ((with_reducible refine gate_dst (N := 119) rfl ?_); refine gate_guard (by rfl) ?_; refine wpList_load_row rfl 23 (.tmp 3) rfl w.heap.size rfl 23 (arrV P) (0, 0) _ HRp_14.out hu rfl hip.out ?_) | ((with_reducible refine gate_dst (N := 127) rfl ?_); refine gate_guard (by rfl) ?_; refine wpList_load_row rfl 23 (.tmp 15) rfl w8.heap.size rfl 23 (arrV P) (0, 0) _ HRb_14.out hu rfl hip.out ?_) | ((with_reducible refine gate_dst (N := 128) rfl ?_); refine gate_guard (by rfl) ?_; refine wpList_load_row rfl 23 (.tmp 3) rfl w.heap.size rfl 23 (arrV P) (0, 0) _ HRp_14.out hu rfl hip.out ?_))
          go_ret
          exact ⟨rfl, HB14.out⟩
def hexs (k : Nat) : List Int → Option (List ByteArray)
  | [] => some []
  | x :: r => (sprlaw7_hex.f k x).bind fun h => (hexs k r).bind fun l => some (h :: l)
theorem hexs_mono (k : Nat) : ∀ l, LeO (hexs k l) (hexs (k + 1) l)
  | [] => LeO.refl _
  | x :: r => LeO.bind (sprlaw7_hex.mono _ k) fun _ => LeO.bind (hexs_mono k r) fun _ => LeO.refl _
theorem hexs_at (k : Nat) : ∀ (L : List Int) (l : List ByteArray), hexs k L = some l → ∀ i (h : i < L.length), sprlaw7_hex.f k (L[i]'h) = some (l.getD i ByteArray.empty)
  | [], l, _, i, hi => absurd hi (Nat.not_lt_zero _)
  | x :: r, l, h, i, hi => by
    unfold hexs at h
    obtain ⟨h1, e1, h⟩ := Option.bind_eq_some_iff.1 h
    obtain ⟨l1, e2, h⟩ := Option.bind_eq_some_iff.1 h
    obtain rfl := Option.some.inj h
    cases i with
    | zero => exact e1
    | succ i => exact hexs_at k r l1 e2 i (Nat.lt_of_succ_lt_succ hi)
theorem hexs_size : ∀ (l : List ByteArray), (∀ h ∈ l, h.size ≤ 100) → ∀ i, (l.getD i ByteArray.empty).size ≤ 100
  | [], _, _ => Nat.zero_le _
  | x :: r, h, 0 => h x (by simp)
  | x :: r, h, i + 1 => hexs_size r (fun y hy => h y (List.mem_cons_of_mem _ hy)) i
def sprlaw7_IpRuns.f (k : Nat) (p : List Int) (a n : Int) : Option Bool :=
  if a < 0 ∨ n < 1 ∨ 8 < n ∨ 8 - n < a then some true else
  ((hexs k (zp p a.toNat n.toNat)).bind fun l => (ip_Parse6.g k (rF (fun i => l.getD i ByteArray.empty) 8)).bind fun x1 => (ip_Parse6.g k (rA (fun i => l.getD i ByteArray.empty) a.toNat 8 ++ ⟨#[58, 58]⟩ ++ rB (fun i => l.getD i ByteArray.empty) (a.toNat + n.toNat) 8)).bind fun x2 =>
    (ip_Parse6.g k ((⟨#[58, 58]⟩ : ByteArray) ++ rA (fun i => l.getD i ByteArray.empty) a.toNat 8 ++ ⟨#[58, 58]⟩)).bind fun x3 => (ip_Parse6.g k (rF (fun i => l.getD i ByteArray.empty) 8 ++ ⟨#[58, 48]⟩)).bind fun x4 =>
    if p.length = 8 ∧ (∀ h ∈ l, h.size ≤ 100) ∧ x1 = (zp p a.toNat n.toNat, 0) ∧ x2 = (zp p a.toNat n.toNat, 0) ∧ x3 = (zero8, 4) ∧ x4 = (zero8, 4) then some true else none)
theorem sprlaw7_IpRuns.mono (p : List Int) (a n : Int) (k : Nat) : LeO (sprlaw7_IpRuns.f k p a n) (sprlaw7_IpRuns.f (k + 1) p a n) := by
  unfold sprlaw7_IpRuns.f
  exact LeO.ite (LeO.refl _) (LeO.bind (hexs_mono k _) fun _ => LeO.bind (ip_Parse6.gmono _ k) fun _ => LeO.bind (ip_Parse6.gmono _ k) fun _ => LeO.bind (ip_Parse6.gmono _ k) fun _ => LeO.bind (ip_Parse6.gmono _ k) fun _ => LeO.refl _)
theorem sprlaw7_IpRuns.calls (k : Nat) (p : List Int) (a n : Int) (r : Bool) (w : World) (h : sprlaw7_IpRuns.f k p a n = some r) (hT : Aside0 (r = true)) (hT0 : Own.ipW w) :
    Calls Tryd.prog 4 #[.agg (arrV p), .int .i64 a, .int .i64 n] w fun e w' => e = .returned (.bool r) ∧ Below w.heap.size w w' := by
  unfold sprlaw7_IpRuns.f at h
  split at h
  · rename_i hc
    obtain rfl := Option.some.inj h
    by_cases h1 : a < 0
    · exact sprlaw7_IpRuns.o1 p a n w hT0 h1
    · by_cases h2 : n < 1
      · exact sprlaw7_IpRuns.o2 p a n w hT0 h1 h2
      · by_cases h3 : 8 < n
        · exact sprlaw7_IpRuns.o3 p a n w hT0 h1 h2 h3
        · exact sprlaw7_IpRuns.o4 p a n w hT0 h1 h2 h3 (by omega)
  · rename_i hc
    obtain ⟨l, hl, h⟩ := Option.bind_eq_some_iff.1 h
    obtain ⟨x1, e1, h⟩ := Option.bind_eq_some_iff.1 h
    obtain ⟨x2, e2, h⟩ := Option.bind_eq_some_iff.1 h
    obtain ⟨x3, e3, h⟩ := Option.bind_eq_some_iff.1 h
    obtain ⟨x4, e4, h⟩ := Option.bind_eq_some_iff.1 h
    split at h
    · rename_i hg
      obtain ⟨hp8, hz, g1, g2, g3, g4⟩ := hg
      clear h
      have hr := hT.out
      clear hT
      subst hr
      rw [g1] at e1; rw [g2] at e2; rw [g3] at e3; rw [g4] at e4
      obtain ⟨a, rfl⟩ : ∃ m : Nat, a = (m : Int) := ⟨a.toNat, by omega⟩
      obtain ⟨n, rfl⟩ : ∃ m : Nat, n = (m : Int) := ⟨n.toNat, by omega⟩
      simp only [Int.toNat_natCast] at e1 e2 e3 e4 hl
      exact sprlaw7_IpRuns.whole k p a n (fun i => l.getD i ByteArray.empty) w hT0 hp8 (by omega) (by omega) (hexs_size l hz) (hexs_at k _ l hl) _ rfl _ _ _ ByteArray.empty ByteArray.empty rfl rfl rfl e1 e2 e3 e4
    · cases h


end Go.Proofs.YtldkhokpedfhdaaDoor.K
