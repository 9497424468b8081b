-- Written by a program of this session's (wip/xprint.py), out of the seat's translation.
import Derived.Test.YtlkbnbkabpodoaaDoorU0
import Derived.Test.YtlkbnbkabpodoaaDoorU2
import Derived.Test.YtlkbnbkabpodoaaDoorU4
import Derived.Test.YtlkbnbkabpodoaaDoorU5
import Derived.Test.YtlkbnbkabpodoaaDoorU6
namespace Go.Proofs.YtlkbnbkabpodoaaDoor.U
open Go.RowKit Go.Proofs.YtlkbnbkabpodoaaDoorW.PrintWords Go.Proofs.YtlkbnbkabpodoaaDoorW.PrintLast Go.Proofs.YtlkbnbkabpodoaaDoorW.PrintMore
attribute [local go_sem] max2_int min2_int max_two min_two max_three min_three max_four min_four   -- for this text's walks alone
set_option linter.unusedVariables false
set_option linter.unusedSimpArgs false

/-! ### sprref14_Parse: function 46 -/
theorem rmin_lt (x n : Int) : min n x = if x < n then x else n := by rw [Int.min_def]; split <;> split <;> omega
theorem rmax_lt (x n : Int) : max n x = if n < x then x else n := by rw [Int.max_def]; split <;> split <;> omega
set_option maxHeartbeats 1000000 in
set_option maxRecDepth 100000 in
theorem sprref14_least.own (h : Bool) (x n : Int) (w : World) :
    Calls Tryd.prog 71 #[.agg #[.bool h, .int .i64 x], .int .i64 n] w fun e w' => e = .returned (.agg #[.bool true, .int .i64 (Own.leastOf h x n)]) ∧ Below w.heap.size w w' := by
  have hu29 := Tryd.underlying48
  cases h with
  | true =>
    go_enter Tryd.func71, Tryd.ntmps71
    go_wp2
    all_goals first
      | (refine bodyPost_ret (results_cell_row rfl _ _ (w.heap.size + 1) 48 #[.bool true, .int .i64 (min n x)] (0, 0) _ rfl (heap_alloc2_new w _ _) hu29 rfl (by kernel_rfl)) rfl ?_; exact ⟨by rw [show Own.leastOf true x n = min n x by unfold Own.leastOf; rw [if_pos rfl, rmin_lt]], ((Below.refl _ w).alloc (Nat.le_refl _) _).alloc (by rw [World.size_alloc]; omega) _⟩)
      | (refine bodyPost_ret (results_cell_row rfl _ _ (w.heap.size + 1) 48 #[.bool true, .int .i64 (x)] (0, 0) _ rfl (heap_alloc2_new w _ _) hu29 rfl (by kernel_rfl)) rfl ?_; exact ⟨by rw [show Own.leastOf true x n = x by unfold Own.leastOf; rw [if_pos rfl, if_pos (by omega)]], ((Below.refl _ w).alloc (Nat.le_refl _) _).alloc (by rw [World.size_alloc]; omega) _⟩)
      | (refine bodyPost_ret (results_cell_row rfl _ _ (w.heap.size + 1) 48 #[.bool true, .int .i64 (n)] (0, 0) _ rfl (heap_alloc2_new w _ _) hu29 rfl (by kernel_rfl)) rfl ?_; exact ⟨by rw [show Own.leastOf true x n = n by unfold Own.leastOf; rw [if_pos rfl, if_neg (by omega)]], ((Below.refl _ w).alloc (Nat.le_refl _) _).alloc (by rw [World.size_alloc]; omega) _⟩)
  | false =>
    go_enter Tryd.func71, Tryd.ntmps71
    go_wp2
    refine bodyPost_ret (results_cell_row rfl _ _ (w.heap.size + 1) 48 #[.bool true, .int .i64 (n)] (0, 0) _ rfl (heap_alloc2_new w _ _) hu29 rfl (by kernel_rfl)) rfl ?_
    exact ⟨by rw [show Own.leastOf false x n = n from rfl], ((Below.refl _ w).alloc (Nat.le_refl _) _).alloc (by rw [World.size_alloc]; omega) _⟩
set_option maxHeartbeats 1000000 in
set_option maxRecDepth 100000 in
theorem sprref14_greatest.own (h : Bool) (x n : Int) (w : World) :
    Calls Tryd.prog 72 #[.agg #[.bool h, .int .i64 x], .int .i64 n] w fun e w' => e = .returned (.agg #[.bool true, .int .i64 (Own.greatestOf x n)]) ∧ Below w.heap.size w w' := by
  have hu29 := Tryd.underlying48
  go_enter Tryd.func72, Tryd.ntmps72
  go_wp2
  all_goals first
    | (refine bodyPost_ret (results_cell_row rfl _ _ (w.heap.size + 1) 48 #[.bool true, .int .i64 (max n x)] (0, 0) _ rfl (heap_alloc2_new w _ _) hu29 rfl (by kernel_rfl)) rfl ?_; exact ⟨by rw [show Own.greatestOf x n = max n x by unfold Own.greatestOf; rw [rmax_lt]], ((Below.refl _ w).alloc (Nat.le_refl _) _).alloc (by rw [World.size_alloc]; omega) _⟩)
    | (refine bodyPost_ret (results_cell_row rfl _ _ (w.heap.size + 1) 48 #[.bool true, .int .i64 (x)] (0, 0) _ rfl (heap_alloc2_new w _ _) hu29 rfl (by kernel_rfl)) rfl ?_; exact ⟨by rw [show Own.greatestOf x n = x by unfold Own.greatestOf; rw [if_pos (by omega)]], ((Below.refl _ w).alloc (Nat.le_refl _) _).alloc (by rw [World.size_alloc]; omega) _⟩)
    | (refine bodyPost_ret (results_cell_row rfl _ _ (w.heap.size + 1) 48 #[.bool true, .int .i64 (n)] (0, 0) _ rfl (heap_alloc2_new w _ _) hu29 rfl (by kernel_rfl)) rfl ?_; exact ⟨by rw [show Own.greatestOf x n = n by unfold Own.greatestOf; rw [if_neg (by omega)]], ((Below.refl _ w).alloc (Nat.le_refl _) _).alloc (by rw [World.size_alloc]; omega) _⟩)
theorem ract_f (c : Own.Ctl) (j : Nat) (has : Bool) (n : Int) (ok : Bool) (hj : j < 10) : c.cells.setIfInBounds j (.bool true) = (c.act j has n ok).cells := by
  have : j = 0 ∨ j = 1 ∨ j = 2 ∨ j = 3 ∨ j = 4 ∨ j = 5 ∨ j = 6 ∨ j = 7 ∨ j = 8 ∨ j = 9 := by omega
  rcases this with rfl | rfl | rfl | rfl | rfl | rfl | rfl | rfl | rfl | rfl <;> simp [Own.Ctl.act, Own.Ctl.cells]
theorem ract_10 (c : Own.Ctl) (has : Bool) (n : Int) (ok : Bool) : (c.cells.setIfInBounds 11 (.bool true)).setIfInBounds 12 (.int .i64 (Own.leastOf c.h0 c.n0 n)) = (c.act 10 has n ok).cells := by simp [Own.Ctl.act, Own.Ctl.cells]
theorem ract_11 (c : Own.Ctl) (has : Bool) (n : Int) (ok : Bool) : (c.cells.setIfInBounds 13 (.bool true)).setIfInBounds 14 (.int .i64 (Own.leastOf c.h1 c.n1 n)) = (c.act 11 has n ok).cells := by simp [Own.Ctl.act, Own.Ctl.cells]
theorem ract_12 (c : Own.Ctl) (has : Bool) (n : Int) (ok : Bool) : (c.cells.setIfInBounds 19 (.bool true)).setIfInBounds 20 (.int .i64 (Own.leastOf c.h4 c.n4 n)) = (c.act 12 has n ok).cells := by simp [Own.Ctl.act, Own.Ctl.cells]
theorem ract_13t (c : Own.Ctl) (has : Bool) (n : Int) : (c.cells.setIfInBounds 17 (.bool true)).setIfInBounds 18 (.int .i64 (Own.greatestOf c.n3 n)) = (c.act 13 has n true).cells := by simp [Own.Ctl.act, Own.Ctl.cells]
theorem ract_13f (c : Own.Ctl) (has : Bool) (n : Int) : (c.cells.setIfInBounds 17 (.bool true)).setIfInBounds 18 (.int .i64 (Own.greatestOf c.n3 2147483648)) = (c.act 13 has n false).cells := by simp [Own.Ctl.act, Own.Ctl.cells]
theorem ract_14 (c : Own.Ctl) (n : Int) (ok : Bool) : (c.cells.setIfInBounds 15 (.bool true)).setIfInBounds 16 (.int .i64 (Own.leastOf c.h2 c.n2 n)) = (c.act 14 true n ok).cells := by simp [Own.Ctl.act, Own.Ctl.cells]
theorem ract_14n (c : Own.Ctl) (n : Int) (ok : Bool) : c.cells.setIfInBounds 10 (.bool true) = (c.act 14 false n ok).cells := by simp [Own.Ctl.act, Own.Ctl.cells]
theorem ract_15 (c : Own.Ctl) (has : Bool) (n : Int) (ok : Bool) : (c.act 15 has n ok).cells = c.cells := by simp [Own.Ctl.act, Own.Ctl.cells]
theorem rone (c : Own.Ctl) : c.cells.all (·.oneCell') = true := by simp [Own.Ctl.cells, Value.oneCell']
theorem rinfo : (Tryd.prog.info? 50).map (·.size) = some 21 := by kernel_rfl
theorem rsize (c : Own.Ctl) : some 21 = some c.cells.size := rfl
theorem rbelow_setRow {B g : Nat} {w0 w : World} (hb : Below B w0 w) (hg : B ≤ g) (cs : Array Value) : Below B w0 (w.setRow g cs) :=
  ⟨hb.os, hb.tape, hb.output, by rw [setRow_size]; exact hb.size, fun k hk => (setRow_other w g k cs (by omega)).trans (hb.block k hk)⟩
set_option maxHeartbeats 1000000 in
set_option maxRecDepth 100000 in
theorem sprref14_directive.w0 (c : Own.Ctl) (nm a : ByteArray) (has : Bool) (n : Int) (ok : Bool) (w : World) (e0 : (nm.toList == [110, 111, 45, 115, 116, 111, 114, 101]) = true)
    (hsec : ∀ w, Calls Tryd.prog 70 #[.string a] w fun e w' => e = .returned (.tuple #[.int .i64 n, .bool ok]) ∧ Below w.heap.size w w') :
    Calls Tryd.prog 60 #[.agg c.cells, .string nm, .bool has, .string a] w fun e w' => e = .returned (.agg (c.act 0 has n ok).cells) ∧ Below w.heap.size w w' := by
  have hu31 := Tryd.underlying50
  have hu29 := Tryd.underlying48
  obtain ⟨wa, hwa⟩ : ∃ wa, wa = w.alloc (.cells c.cells 50) := ⟨_, rfl⟩
  obtain ⟨w1, hw1⟩ : ∃ w1, w1 = wa.alloc (.cells #[.bool false, .bool false, .bool false, .bool false, .bool false, .bool false, .bool false, .bool false, .bool false, .bool false, .bool false, .bool false, .int .i64 0, .bool false, .int .i64 0, .bool false, .int .i64 0, .bool false, .int .i64 0, .bool false, .int .i64 0] 50) := ⟨_, rfl⟩
  have hsa : wa.heap.size = w.heap.size + 1 := by rw [hwa, World.size_alloc]
  have hb1 : Below w.heap.size w w1 := by rw [hw1, hwa]; exact ((Below.refl _ w).alloc (Nat.le_refl _) _).alloc (by rw [World.size_alloc]; omega) _
  have hzC : w1.heap[w.heap.size]? = some (.cells c.cells 50 (0, 0)) := by rw [hw1, hwa]; exact blk_alloc (blk_new w _) _
  have hzR : w1.heap[w.heap.size + 1]? = some (.cells Own.Ctl.zero.cells 50 (0, 0)) := by rw [hw1, ← hsa]; exact blk_new wa _
  have HNE := Aside0.mk (show w.heap.size + 1 ≠ w.heap.size by omega)
  have HB1 := Aside0.mk hb1
  have HZC := Aside0.mk hzC
  have HZR := Aside0.mk hzR
  clear hb1 hzC hzR hsa
  go_enter Tryd.func60, Tryd.ntmps60
  go_wp2_with (first | (go_at_call 70; rw [← hwa, ← hw1]; (with_reducible refine (hsec _).mono ?_); rintro e w2 ⟨rfl, hb⟩; have HC := Aside0.mk (blk_below HZC.out hb); have HR := Aside0.mk (blk_below HZR.out hb); have HB := Aside0.mk (HB1.out.trans (hb.mono HB1.out.size)); clear hb HZC HZR HB1 hwa hw1; have cl0 := (blk_cell HC.out 0).trans (show c.cells[0]? = some (.bool c.b0) from rfl); have fr0 := blk_frozen HC.out 0; skip) | (refine wpList_load_row rfl 50 _ rfl w.heap.size rfl 50 _ (0, 0) _ (blk_set HC.out _ _) hu31 rfl (rinfo.trans (by first | rfl | (simp only [Array.size_setIfInBounds]; rfl))) ?_) | ((with_reducible refine gate_store (t := 50) rfl ?_); refine wpList_store_row rfl 50 _ _ rfl (w.heap.size + 1) _ rfl rfl 50 Own.Ctl.zero.cells (blk_far HR.out HNE.out _) (rinfo.trans (by first | rfl | (simp only [Array.size_setIfInBounds]; rfl))) (by first | rfl | (simp only [Array.size_setIfInBounds]; rfl)) (by rw [ract_f c 0 has n ok (by decide)]; exact rone _) ?_))
  refine bodyPost_ret (results_cell_row rfl _ _ (w.heap.size + 1) 50 _ (0, 0) _ rfl (setRow_heap _ _ _ _ _ _ (blk_far HR.out HNE.out _)) hu31 rfl (rinfo.trans (by first | rfl | (simp only [Array.size_setIfInBounds]; rfl)))) rfl ?_
  exact ⟨by rw [ract_f c 0 has n ok (by decide)], rbelow_setRow (HB.out.setCell (Nat.le_refl _) _) (Nat.le_succ _) _⟩
set_option maxHeartbeats 1000000 in
set_option maxRecDepth 100000 in
theorem sprref14_directive.w1 (c : Own.Ctl) (nm a : ByteArray) (has : Bool) (n : Int) (ok : Bool) (w : World) (e0 : (nm.toList == [110, 111, 45, 115, 116, 111, 114, 101]) = false) (e1 : (nm.toList == [110, 111, 45, 99, 97, 99, 104, 101]) = true)
    (hsec : ∀ w, Calls Tryd.prog 70 #[.string a] w fun e w' => e = .returned (.tuple #[.int .i64 n, .bool ok]) ∧ Below w.heap.size w w') :
    Calls Tryd.prog 60 #[.agg c.cells, .string nm, .bool has, .string a] w fun e w' => e = .returned (.agg (c.act 1 has n ok).cells) ∧ Below w.heap.size w w' := by
  have hu31 := Tryd.underlying50
  have hu29 := Tryd.underlying48
  obtain ⟨wa, hwa⟩ : ∃ wa, wa = w.alloc (.cells c.cells 50) := ⟨_, rfl⟩
  obtain ⟨w1, hw1⟩ : ∃ w1, w1 = wa.alloc (.cells #[.bool false, .bool false, .bool false, .bool false, .bool false, .bool false, .bool false, .bool false, .bool false, .bool false, .bool false, .bool false, .int .i64 0, .bool false, .int .i64 0, .bool false, .int .i64 0, .bool false, .int .i64 0, .bool false, .int .i64 0] 50) := ⟨_, rfl⟩
  have hsa : wa.heap.size = w.heap.size + 1 := by rw [hwa, World.size_alloc]
  have hb1 : Below w.heap.size w w1 := by rw [hw1, hwa]; exact ((Below.refl _ w).alloc (Nat.le_refl _) _).alloc (by rw [World.size_alloc]; omega) _
  have hzC : w1.heap[w.heap.size]? = some (.cells c.cells 50 (0, 0)) := by rw [hw1, hwa]; exact blk_alloc (blk_new w _) _
  have hzR : w1.heap[w.heap.size + 1]? = some (.cells Own.Ctl.zero.cells 50 (0, 0)) := by rw [hw1, ← hsa]; exact blk_new wa _
  have HNE := Aside0.mk (show w.heap.size + 1 ≠ w.heap.size by omega)
  have HB1 := Aside0.mk hb1
  have HZC := Aside0.mk hzC
  have HZR := Aside0.mk hzR
  clear hb1 hzC hzR hsa
  go_enter Tryd.func60, Tryd.ntmps60
  go_wp2_with (first | (go_at_call 70; rw [← hwa, ← hw1]; (with_reducible refine (hsec _).mono ?_); rintro e w2 ⟨rfl, hb⟩; have HC := Aside0.mk (blk_below HZC.out hb); have HR := Aside0.mk (blk_below HZR.out hb); have HB := Aside0.mk (HB1.out.trans (hb.mono HB1.out.size)); clear hb HZC HZR HB1 hwa hw1; have cl1 := (blk_cell HC.out 1).trans (show c.cells[1]? = some (.bool c.b1) from rfl); have fr1 := blk_frozen HC.out 1; skip) | (refine wpList_load_row rfl 50 _ rfl w.heap.size rfl 50 _ (0, 0) _ (blk_set HC.out _ _) hu31 rfl (rinfo.trans (by first | rfl | (simp only [Array.size_setIfInBounds]; rfl))) ?_) | ((with_reducible refine gate_store (t := 50) rfl ?_); refine wpList_store_row rfl 50 _ _ rfl (w.heap.size + 1) _ rfl rfl 50 Own.Ctl.zero.cells (blk_far HR.out HNE.out _) (rinfo.trans (by first | rfl | (simp only [Array.size_setIfInBounds]; rfl))) (by first | rfl | (simp only [Array.size_setIfInBounds]; rfl)) (by rw [ract_f c 1 has n ok (by decide)]; exact rone _) ?_))
  refine bodyPost_ret (results_cell_row rfl _ _ (w.heap.size + 1) 50 _ (0, 0) _ rfl (setRow_heap _ _ _ _ _ _ (blk_far HR.out HNE.out _)) hu31 rfl (rinfo.trans (by first | rfl | (simp only [Array.size_setIfInBounds]; rfl)))) rfl ?_
  exact ⟨by rw [ract_f c 1 has n ok (by decide)], rbelow_setRow (HB.out.setCell (Nat.le_refl _) _) (Nat.le_succ _) _⟩
set_option maxHeartbeats 1000000 in
set_option maxRecDepth 100000 in
theorem sprref14_directive.w2 (c : Own.Ctl) (nm a : ByteArray) (has : Bool) (n : Int) (ok : Bool) (w : World) (e0 : (nm.toList == [110, 111, 45, 115, 116, 111, 114, 101]) = false) (e1 : (nm.toList == [110, 111, 45, 99, 97, 99, 104, 101]) = false) (e2 : (nm.toList == [112, 114, 105, 118, 97, 116, 101]) = true)
    (hsec : ∀ w, Calls Tryd.prog 70 #[.string a] w fun e w' => e = .returned (.tuple #[.int .i64 n, .bool ok]) ∧ Below w.heap.size w w') :
    Calls Tryd.prog 60 #[.agg c.cells, .string nm, .bool has, .string a] w fun e w' => e = .returned (.agg (c.act 2 has n ok).cells) ∧ Below w.heap.size w w' := by
  have hu31 := Tryd.underlying50
  have hu29 := Tryd.underlying48
  obtain ⟨wa, hwa⟩ : ∃ wa, wa = w.alloc (.cells c.cells 50) := ⟨_, rfl⟩
  obtain ⟨w1, hw1⟩ : ∃ w1, w1 = wa.alloc (.cells #[.bool false, .bool false, .bool false, .bool false, .bool false, .bool false, .bool false, .bool false, .bool false, .bool false, .bool false, .bool false, .int .i64 0, .bool false, .int .i64 0, .bool false, .int .i64 0, .bool false, .int .i64 0, .bool false, .int .i64 0] 50) := ⟨_, rfl⟩
  have hsa : wa.heap.size = w.heap.size + 1 := by rw [hwa, World.size_alloc]
  have hb1 : Below w.heap.size w w1 := by rw [hw1, hwa]; exact ((Below.refl _ w).alloc (Nat.le_refl _) _).alloc (by rw [World.size_alloc]; omega) _
  have hzC : w1.heap[w.heap.size]? = some (.cells c.cells 50 (0, 0)) := by rw [hw1, hwa]; exact blk_alloc (blk_new w _) _
  have hzR : w1.heap[w.heap.size + 1]? = some (.cells Own.Ctl.zero.cells 50 (0, 0)) := by rw [hw1, ← hsa]; exact blk_new wa _
  have HNE := Aside0.mk (show w.heap.size + 1 ≠ w.heap.size by omega)
  have HB1 := Aside0.mk hb1
  have HZC := Aside0.mk hzC
  have HZR := Aside0.mk hzR
  clear hb1 hzC hzR hsa
  go_enter Tryd.func60, Tryd.ntmps60
  go_wp2_with (first | (go_at_call 70; rw [← hwa, ← hw1]; (with_reducible refine (hsec _).mono ?_); rintro e w2 ⟨rfl, hb⟩; have HC := Aside0.mk (blk_below HZC.out hb); have HR := Aside0.mk (blk_below HZR.out hb); have HB := Aside0.mk (HB1.out.trans (hb.mono HB1.out.size)); clear hb HZC HZR HB1 hwa hw1; have cl2 := (blk_cell HC.out 2).trans (show c.cells[2]? = some (.bool c.b2) from rfl); have fr2 := blk_frozen HC.out 2; skip) | (refine wpList_load_row rfl 50 _ rfl w.heap.size rfl 50 _ (0, 0) _ (blk_set HC.out _ _) hu31 rfl (rinfo.trans (by first | rfl | (simp only [Array.size_setIfInBounds]; rfl))) ?_) | ((with_reducible refine gate_store (t := 50) rfl ?_); refine wpList_store_row rfl 50 _ _ rfl (w.heap.size + 1) _ rfl rfl 50 Own.Ctl.zero.cells (blk_far HR.out HNE.out _) (rinfo.trans (by first | rfl | (simp only [Array.size_setIfInBounds]; rfl))) (by first | rfl | (simp only [Array.size_setIfInBounds]; rfl)) (by rw [ract_f c 2 has n ok (by decide)]; exact rone _) ?_))
  refine bodyPost_ret (results_cell_row rfl _ _ (w.heap.size + 1) 50 _ (0, 0) _ rfl (setRow_heap _ _ _ _ _ _ (blk_far HR.out HNE.out _)) hu31 rfl (rinfo.trans (by first | rfl | (simp only [Array.size_setIfInBounds]; rfl)))) rfl ?_
  exact ⟨by rw [ract_f c 2 has n ok (by decide)], rbelow_setRow (HB.out.setCell (Nat.le_refl _) _) (Nat.le_succ _) _⟩
set_option maxHeartbeats 1000000 in
set_option maxRecDepth 100000 in
theorem sprref14_directive.w3 (c : Own.Ctl) (nm a : ByteArray) (has : Bool) (n : Int) (ok : Bool) (w : World) (e0 : (nm.toList == [110, 111, 45, 115, 116, 111, 114, 101]) = false) (e1 : (nm.toList == [110, 111, 45, 99, 97, 99, 104, 101]) = false) (e2 : (nm.toList == [112, 114, 105, 118, 97, 116, 101]) = false) (e3 : (nm.toList == [112, 117, 98, 108, 105, 99]) = true)
    (hsec : ∀ w, Calls Tryd.prog 70 #[.string a] w fun e w' => e = .returned (.tuple #[.int .i64 n, .bool ok]) ∧ Below w.heap.size w w') :
    Calls Tryd.prog 60 #[.agg c.cells, .string nm, .bool has, .string a] w fun e w' => e = .returned (.agg (c.act 3 has n ok).cells) ∧ Below w.heap.size w w' := by
  have hu31 := Tryd.underlying50
  have hu29 := Tryd.underlying48
  obtain ⟨wa, hwa⟩ : ∃ wa, wa = w.alloc (.cells c.cells 50) := ⟨_, rfl⟩
  obtain ⟨w1, hw1⟩ : ∃ w1, w1 = wa.alloc (.cells #[.bool false, .bool false, .bool false, .bool false, .bool false, .bool false, .bool false, .bool false, .bool false, .bool false, .bool false, .bool false, .int .i64 0, .bool false, .int .i64 0, .bool false, .int .i64 0, .bool false, .int .i64 0, .bool false, .int .i64 0] 50) := ⟨_, rfl⟩
  have hsa : wa.heap.size = w.heap.size + 1 := by rw [hwa, World.size_alloc]
  have hb1 : Below w.heap.size w w1 := by rw [hw1, hwa]; exact ((Below.refl _ w).alloc (Nat.le_refl _) _).alloc (by rw [World.size_alloc]; omega) _
  have hzC : w1.heap[w.heap.size]? = some (.cells c.cells 50 (0, 0)) := by rw [hw1, hwa]; exact blk_alloc (blk_new w _) _
  have hzR : w1.heap[w.heap.size + 1]? = some (.cells Own.Ctl.zero.cells 50 (0, 0)) := by rw [hw1, ← hsa]; exact blk_new wa _
  have HNE := Aside0.mk (show w.heap.size + 1 ≠ w.heap.size by omega)
  have HB1 := Aside0.mk hb1
  have HZC := Aside0.mk hzC
  have HZR := Aside0.mk hzR
  clear hb1 hzC hzR hsa
  go_enter Tryd.func60, Tryd.ntmps60
  go_wp2_with (first | (go_at_call 70; rw [← hwa, ← hw1]; (with_reducible refine (hsec _).mono ?_); rintro e w2 ⟨rfl, hb⟩; have HC := Aside0.mk (blk_below HZC.out hb); have HR := Aside0.mk (blk_below HZR.out hb); have HB := Aside0.mk (HB1.out.trans (hb.mono HB1.out.size)); clear hb HZC HZR HB1 hwa hw1; have cl3 := (blk_cell HC.out 3).trans (show c.cells[3]? = some (.bool c.b3) from rfl); have fr3 := blk_frozen HC.out 3; skip) | (refine wpList_load_row rfl 50 _ rfl w.heap.size rfl 50 _ (0, 0) _ (blk_set HC.out _ _) hu31 rfl (rinfo.trans (by first | rfl | (simp only [Array.size_setIfInBounds]; rfl))) ?_) | ((with_reducible refine gate_store (t := 50) rfl ?_); refine wpList_store_row rfl 50 _ _ rfl (w.heap.size + 1) _ rfl rfl 50 Own.Ctl.zero.cells (blk_far HR.out HNE.out _) (rinfo.trans (by first | rfl | (simp only [Array.size_setIfInBounds]; rfl))) (by first | rfl | (simp only [Array.size_setIfInBounds]; rfl)) (by rw [ract_f c 3 has n ok (by decide)]; exact rone _) ?_))
  refine bodyPost_ret (results_cell_row rfl _ _ (w.heap.size + 1) 50 _ (0, 0) _ rfl (setRow_heap _ _ _ _ _ _ (blk_far HR.out HNE.out _)) hu31 rfl (rinfo.trans (by first | rfl | (simp only [Array.size_setIfInBounds]; rfl)))) rfl ?_
  exact ⟨by rw [ract_f c 3 has n ok (by decide)], rbelow_setRow (HB.out.setCell (Nat.le_refl _) _) (Nat.le_succ _) _⟩
set_option maxHeartbeats 1000000 in
set_option maxRecDepth 100000 in
theorem sprref14_directive.w4 (c : Own.Ctl) (nm a : ByteArray) (has : Bool) (n : Int) (ok : Bool) (w : World) (e0 : (nm.toList == [110, 111, 45, 115, 116, 111, 114, 101]) = false) (e1 : (nm.toList == [110, 111, 45, 99, 97, 99, 104, 101]) = false) (e2 : (nm.toList == [112, 114, 105, 118, 97, 116, 101]) = false) (e3 : (nm.toList == [112, 117, 98, 108, 105, 99]) = false) (e4 : (nm.toList == [109, 117, 115, 116, 45, 114, 101, 118, 97, 108, 105, 100, 97, 116, 101]) = true)
    (hsec : ∀ w, Calls Tryd.prog 70 #[.string a] w fun e w' => e = .returned (.tuple #[.int .i64 n, .bool ok]) ∧ Below w.heap.size w w') :
    Calls Tryd.prog 60 #[.agg c.cells, .string nm, .bool has, .string a] w fun e w' => e = .returned (.agg (c.act 4 has n ok).cells) ∧ Below w.heap.size w w' := by
  have hu31 := Tryd.underlying50
  have hu29 := Tryd.underlying48
  obtain ⟨wa, hwa⟩ : ∃ wa, wa = w.alloc (.cells c.cells 50) := ⟨_, rfl⟩
  obtain ⟨w1, hw1⟩ : ∃ w1, w1 = wa.alloc (.cells #[.bool false, .bool false, .bool false, .bool false, .bool false, .bool false, .bool false, .bool false, .bool false, .bool false, .bool false, .bool false, .int .i64 0, .bool false, .int .i64 0, .bool false, .int .i64 0, .bool false, .int .i64 0, .bool false, .int .i64 0] 50) := ⟨_, rfl⟩
  have hsa : wa.heap.size = w.heap.size + 1 := by rw [hwa, World.size_alloc]
  have hb1 : Below w.heap.size w w1 := by rw [hw1, hwa]; exact ((Below.refl _ w).alloc (Nat.le_refl _) _).alloc (by rw [World.size_alloc]; omega) _
  have hzC : w1.heap[w.heap.size]? = some (.cells c.cells 50 (0, 0)) := by rw [hw1, hwa]; exact blk_alloc (blk_new w _) _
  have hzR : w1.heap[w.heap.size + 1]? = some (.cells Own.Ctl.zero.cells 50 (0, 0)) := by rw [hw1, ← hsa]; exact blk_new wa _
  have HNE := Aside0.mk (show w.heap.size + 1 ≠ w.heap.size by omega)
  have HB1 := Aside0.mk hb1
  have HZC := Aside0.mk hzC
  have HZR := Aside0.mk hzR
  clear hb1 hzC hzR hsa
  go_enter Tryd.func60, Tryd.ntmps60
  go_wp2_with (first | (go_at_call 70; rw [← hwa, ← hw1]; (with_reducible refine (hsec _).mono ?_); rintro e w2 ⟨rfl, hb⟩; have HC := Aside0.mk (blk_below HZC.out hb); have HR := Aside0.mk (blk_below HZR.out hb); have HB := Aside0.mk (HB1.out.trans (hb.mono HB1.out.size)); clear hb HZC HZR HB1 hwa hw1; have cl4 := (blk_cell HC.out 4).trans (show c.cells[4]? = some (.bool c.b4) from rfl); have fr4 := blk_frozen HC.out 4; skip) | (refine wpList_load_row rfl 50 _ rfl w.heap.size rfl 50 _ (0, 0) _ (blk_set HC.out _ _) hu31 rfl (rinfo.trans (by first | rfl | (simp only [Array.size_setIfInBounds]; rfl))) ?_) | ((with_reducible refine gate_store (t := 50) rfl ?_); refine wpList_store_row rfl 50 _ _ rfl (w.heap.size + 1) _ rfl rfl 50 Own.Ctl.zero.cells (blk_far HR.out HNE.out _) (rinfo.trans (by first | rfl | (simp only [Array.size_setIfInBounds]; rfl))) (by first | rfl | (simp only [Array.size_setIfInBounds]; rfl)) (by rw [ract_f c 4 has n ok (by decide)]; exact rone _) ?_))
  refine bodyPost_ret (results_cell_row rfl _ _ (w.heap.size + 1) 50 _ (0, 0) _ rfl (setRow_heap _ _ _ _ _ _ (blk_far HR.out HNE.out _)) hu31 rfl (rinfo.trans (by first | rfl | (simp only [Array.size_setIfInBounds]; rfl)))) rfl ?_
  exact ⟨by rw [ract_f c 4 has n ok (by decide)], rbelow_setRow (HB.out.setCell (Nat.le_refl _) _) (Nat.le_succ _) _⟩
set_option maxHeartbeats 1000000 in
set_option maxRecDepth 100000 in
theorem sprref14_directive.w5 (c : Own.Ctl) (nm a : ByteArray) (has : Bool) (n : Int) (ok : Bool) (w : World) (e0 : (nm.toList == [110, 111, 45, 115, 116, 111, 114, 101]) = false) (e1 : (nm.toList == [110, 111, 45, 99, 97, 99, 104, 101]) = false) (e2 : (nm.toList == [112, 114, 105, 118, 97, 116, 101]) = false) (e3 : (nm.toList == [112, 117, 98, 108, 105, 99]) = false) (e4 : (nm.toList == [109, 117, 115, 116, 45, 114, 101, 118, 97, 108, 105, 100, 97, 116, 101]) = false) (e5 : (nm.toList == [112, 114, 111, 120, 121, 45, 114, 101, 118, 97, 108, 105, 100, 97, 116, 101]) = true)
    (hsec : ∀ w, Calls Tryd.prog 70 #[.string a] w fun e w' => e = .returned (.tuple #[.int .i64 n, .bool ok]) ∧ Below w.heap.size w w') :
    Calls Tryd.prog 60 #[.agg c.cells, .string nm, .bool has, .string a] w fun e w' => e = .returned (.agg (c.act 5 has n ok).cells) ∧ Below w.heap.size w w' := by
  have hu31 := Tryd.underlying50
  have hu29 := Tryd.underlying48
  obtain ⟨wa, hwa⟩ : ∃ wa, wa = w.alloc (.cells c.cells 50) := ⟨_, rfl⟩
  obtain ⟨w1, hw1⟩ : ∃ w1, w1 = wa.alloc (.cells #[.bool false, .bool false, .bool false, .bool false, .bool false, .bool false, .bool false, .bool false, .bool false, .bool false, .bool false, .bool false, .int .i64 0, .bool false, .int .i64 0, .bool false, .int .i64 0, .bool false, .int .i64 0, .bool false, .int .i64 0] 50) := ⟨_, rfl⟩
  have hsa : wa.heap.size = w.heap.size + 1 := by rw [hwa, World.size_alloc]
  have hb1 : Below w.heap.size w w1 := by rw [hw1, hwa]; exact ((Below.refl _ w).alloc (Nat.le_refl _) _).alloc (by rw [World.size_alloc]; omega) _
  have hzC : w1.heap[w.heap.size]? = some (.cells c.cells 50 (0, 0)) := by rw [hw1, hwa]; exact blk_alloc (blk_new w _) _
  have hzR : w1.heap[w.heap.size + 1]? = some (.cells Own.Ctl.zero.cells 50 (0, 0)) := by rw [hw1, ← hsa]; exact blk_new wa _
  have HNE := Aside0.mk (show w.heap.size + 1 ≠ w.heap.size by omega)
  have HB1 := Aside0.mk hb1
  have HZC := Aside0.mk hzC
  have HZR := Aside0.mk hzR
  clear hb1 hzC hzR hsa
  go_enter Tryd.func60, Tryd.ntmps60
  go_wp2_with (first | (go_at_call 70; rw [← hwa, ← hw1]; (with_reducible refine (hsec _).mono ?_); rintro e w2 ⟨rfl, hb⟩; have HC := Aside0.mk (blk_below HZC.out hb); have HR := Aside0.mk (blk_below HZR.out hb); have HB := Aside0.mk (HB1.out.trans (hb.mono HB1.out.size)); clear hb HZC HZR HB1 hwa hw1; have cl5 := (blk_cell HC.out 5).trans (show c.cells[5]? = some (.bool c.b5) from rfl); have fr5 := blk_frozen HC.out 5; skip) | (refine wpList_load_row rfl 50 _ rfl w.heap.size rfl 50 _ (0, 0) _ (blk_set HC.out _ _) hu31 rfl (rinfo.trans (by first | rfl | (simp only [Array.size_setIfInBounds]; rfl))) ?_) | ((with_reducible refine gate_store (t := 50) rfl ?_); refine wpList_store_row rfl 50 _ _ rfl (w.heap.size + 1) _ rfl rfl 50 Own.Ctl.zero.cells (blk_far HR.out HNE.out _) (rinfo.trans (by first | rfl | (simp only [Array.size_setIfInBounds]; rfl))) (by first | rfl | (simp only [Array.size_setIfInBounds]; rfl)) (by rw [ract_f c 5 has n ok (by decide)]; exact rone _) ?_))
  refine bodyPost_ret (results_cell_row rfl _ _ (w.heap.size + 1) 50 _ (0, 0) _ rfl (setRow_heap _ _ _ _ _ _ (blk_far HR.out HNE.out _)) hu31 rfl (rinfo.trans (by first | rfl | (simp only [Array.size_setIfInBounds]; rfl)))) rfl ?_
  exact ⟨by rw [ract_f c 5 has n ok (by decide)], rbelow_setRow (HB.out.setCell (Nat.le_refl _) _) (Nat.le_succ _) _⟩
set_option maxHeartbeats 1000000 in
set_option maxRecDepth 100000 in
theorem sprref14_directive.w6 (c : Own.Ctl) (nm a : ByteArray) (has : Bool) (n : Int) (ok : Bool) (w : World) (e0 : (nm.toList == [110, 111, 45, 115, 116, 111, 114, 101]) = false) (e1 : (nm.toList == [110, 111, 45, 99, 97, 99, 104, 101]) = false) (e2 : (nm.toList == [112, 114, 105, 118, 97, 116, 101]) = false) (e3 : (nm.toList == [112, 117, 98, 108, 105, 99]) = false) (e4 : (nm.toList == [109, 117, 115, 116, 45, 114, 101, 118, 97, 108, 105, 100, 97, 116, 101]) = false) (e5 : (nm.toList == [112, 114, 111, 120, 121, 45, 114, 101, 118, 97, 108, 105, 100, 97, 116, 101]) = false) (e6 : (nm.toList == [111, 110, 108, 121, 45, 105, 102, 45, 99, 97, 99, 104, 101, 100]) = true)
    (hsec : ∀ w, Calls Tryd.prog 70 #[.string a] w fun e w' => e = .returned (.tuple #[.int .i64 n, .bool ok]) ∧ Below w.heap.size w w') :
    Calls Tryd.prog 60 #[.agg c.cells, .string nm, .bool has, .string a] w fun e w' => e = .returned (.agg (c.act 6 has n ok).cells) ∧ Below w.heap.size w w' := by
  have hu31 := Tryd.underlying50
  have hu29 := Tryd.underlying48
  obtain ⟨wa, hwa⟩ : ∃ wa, wa = w.alloc (.cells c.cells 50) := ⟨_, rfl⟩
  obtain ⟨w1, hw1⟩ : ∃ w1, w1 = wa.alloc (.cells #[.bool false, .bool false, .bool false, .bool false, .bool false, .bool false, .bool false, .bool false, .bool false, .bool false, .bool false, .bool false, .int .i64 0, .bool false, .int .i64 0, .bool false, .int .i64 0, .bool false, .int .i64 0, .bool false, .int .i64 0] 50) := ⟨_, rfl⟩
  have hsa : wa.heap.size = w.heap.size + 1 := by rw [hwa, World.size_alloc]
  have hb1 : Below w.heap.size w w1 := by rw [hw1, hwa]; exact ((Below.refl _ w).alloc (Nat.le_refl _) _).alloc (by rw [World.size_alloc]; omega) _
  have hzC : w1.heap[w.heap.size]? = some (.cells c.cells 50 (0, 0)) := by rw [hw1, hwa]; exact blk_alloc (blk_new w _) _
  have hzR : w1.heap[w.heap.size + 1]? = some (.cells Own.Ctl.zero.cells 50 (0, 0)) := by rw [hw1, ← hsa]; exact blk_new wa _
  have HNE := Aside0.mk (show w.heap.size + 1 ≠ w.heap.size by omega)
  have HB1 := Aside0.mk hb1
  have HZC := Aside0.mk hzC
  have HZR := Aside0.mk hzR
  clear hb1 hzC hzR hsa
  go_enter Tryd.func60, Tryd.ntmps60
  go_wp2_with (first | (go_at_call 70; rw [← hwa, ← hw1]; (with_reducible refine (hsec _).mono ?_); rintro e w2 ⟨rfl, hb⟩; have HC := Aside0.mk (blk_below HZC.out hb); have HR := Aside0.mk (blk_below HZR.out hb); have HB := Aside0.mk (HB1.out.trans (hb.mono HB1.out.size)); clear hb HZC HZR HB1 hwa hw1; have cl6 := (blk_cell HC.out 6).trans (show c.cells[6]? = some (.bool c.b6) from rfl); have fr6 := blk_frozen HC.out 6; skip) | (refine wpList_load_row rfl 50 _ rfl w.heap.size rfl 50 _ (0, 0) _ (blk_set HC.out _ _) hu31 rfl (rinfo.trans (by first | rfl | (simp only [Array.size_setIfInBounds]; rfl))) ?_) | ((with_reducible refine gate_store (t := 50) rfl ?_); refine wpList_store_row rfl 50 _ _ rfl (w.heap.size + 1) _ rfl rfl 50 Own.Ctl.zero.cells (blk_far HR.out HNE.out _) (rinfo.trans (by first | rfl | (simp only [Array.size_setIfInBounds]; rfl))) (by first | rfl | (simp only [Array.size_setIfInBounds]; rfl)) (by rw [ract_f c 6 has n ok (by decide)]; exact rone _) ?_))
  refine bodyPost_ret (results_cell_row rfl _ _ (w.heap.size + 1) 50 _ (0, 0) _ rfl (setRow_heap _ _ _ _ _ _ (blk_far HR.out HNE.out _)) hu31 rfl (rinfo.trans (by first | rfl | (simp only [Array.size_setIfInBounds]; rfl)))) rfl ?_
  exact ⟨by rw [ract_f c 6 has n ok (by decide)], rbelow_setRow (HB.out.setCell (Nat.le_refl _) _) (Nat.le_succ _) _⟩
set_option maxHeartbeats 1000000 in
set_option maxRecDepth 100000 in
theorem sprref14_directive.w7 (c : Own.Ctl) (nm a : ByteArray) (has : Bool) (n : Int) (ok : Bool) (w : World) (e0 : (nm.toList == [110, 111, 45, 115, 116, 111, 114, 101]) = false) (e1 : (nm.toList == [110, 111, 45, 99, 97, 99, 104, 101]) = false) (e2 : (nm.toList == [112, 114, 105, 118, 97, 116, 101]) = false) (e3 : (nm.toList == [112, 117, 98, 108, 105, 99]) = false) (e4 : (nm.toList == [109, 117, 115, 116, 45, 114, 101, 118, 97, 108, 105, 100, 97, 116, 101]) = false) (e5 : (nm.toList == [112, 114, 111, 120, 121, 45, 114, 101, 118, 97, 108, 105, 100, 97, 116, 101]) = false) (e6 : (nm.toList == [111, 110, 108, 121, 45, 105, 102, 45, 99, 97, 99, 104, 101, 100]) = false) (e7 : (nm.toList == [109, 117, 115, 116, 45, 117, 110, 100, 101, 114, 115, 116, 97, 110, 100]) = true)
    (hsec : ∀ w, Calls Tryd.prog 70 #[.string a] w fun e w' => e = .returned (.tuple #[.int .i64 n, .bool ok]) ∧ Below w.heap.size w w') :
    Calls Tryd.prog 60 #[.agg c.cells, .string nm, .bool has, .string a] w fun e w' => e = .returned (.agg (c.act 7 has n ok).cells) ∧ Below w.heap.size w w' := by
  have hu31 := Tryd.underlying50
  have hu29 := Tryd.underlying48
  obtain ⟨wa, hwa⟩ : ∃ wa, wa = w.alloc (.cells c.cells 50) := ⟨_, rfl⟩
  obtain ⟨w1, hw1⟩ : ∃ w1, w1 = wa.alloc (.cells #[.bool false, .bool false, .bool false, .bool false, .bool false, .bool false, .bool false, .bool false, .bool false, .bool false, .bool false, .bool false, .int .i64 0, .bool false, .int .i64 0, .bool false, .int .i64 0, .bool false, .int .i64 0, .bool false, .int .i64 0] 50) := ⟨_, rfl⟩
  have hsa : wa.heap.size = w.heap.size + 1 := by rw [hwa, World.size_alloc]
  have hb1 : Below w.heap.size w w1 := by rw [hw1, hwa]; exact ((Below.refl _ w).alloc (Nat.le_refl _) _).alloc (by rw [World.size_alloc]; omega) _
  have hzC : w1.heap[w.heap.size]? = some (.cells c.cells 50 (0, 0)) := by rw [hw1, hwa]; exact blk_alloc (blk_new w _) _
  have hzR : w1.heap[w.heap.size + 1]? = some (.cells Own.Ctl.zero.cells 50 (0, 0)) := by rw [hw1, ← hsa]; exact blk_new wa _
  have HNE := Aside0.mk (show w.heap.size + 1 ≠ w.heap.size by omega)
  have HB1 := Aside0.mk hb1
  have HZC := Aside0.mk hzC
  have HZR := Aside0.mk hzR
  clear hb1 hzC hzR hsa
  go_enter Tryd.func60, Tryd.ntmps60
  go_wp2_with (first | (go_at_call 70; rw [← hwa, ← hw1]; (with_reducible refine (hsec _).mono ?_); rintro e w2 ⟨rfl, hb⟩; have HC := Aside0.mk (blk_below HZC.out hb); have HR := Aside0.mk (blk_below HZR.out hb); have HB := Aside0.mk (HB1.out.trans (hb.mono HB1.out.size)); clear hb HZC HZR HB1 hwa hw1; have cl7 := (blk_cell HC.out 7).trans (show c.cells[7]? = some (.bool c.b7) from rfl); have fr7 := blk_frozen HC.out 7; skip) | (refine wpList_load_row rfl 50 _ rfl w.heap.size rfl 50 _ (0, 0) _ (blk_set HC.out _ _) hu31 rfl (rinfo.trans (by first | rfl | (simp only [Array.size_setIfInBounds]; rfl))) ?_) | ((with_reducible refine gate_store (t := 50) rfl ?_); refine wpList_store_row rfl 50 _ _ rfl (w.heap.size + 1) _ rfl rfl 50 Own.Ctl.zero.cells (blk_far HR.out HNE.out _) (rinfo.trans (by first | rfl | (simp only [Array.size_setIfInBounds]; rfl))) (by first | rfl | (simp only [Array.size_setIfInBounds]; rfl)) (by rw [ract_f c 7 has n ok (by decide)]; exact rone _) ?_))
  refine bodyPost_ret (results_cell_row rfl _ _ (w.heap.size + 1) 50 _ (0, 0) _ rfl (setRow_heap _ _ _ _ _ _ (blk_far HR.out HNE.out _)) hu31 rfl (rinfo.trans (by first | rfl | (simp only [Array.size_setIfInBounds]; rfl)))) rfl ?_
  exact ⟨by rw [ract_f c 7 has n ok (by decide)], rbelow_setRow (HB.out.setCell (Nat.le_refl _) _) (Nat.le_succ _) _⟩
set_option maxHeartbeats 1000000 in
set_option maxRecDepth 100000 in
theorem sprref14_directive.w8 (c : Own.Ctl) (nm a : ByteArray) (has : Bool) (n : Int) (ok : Bool) (w : World) (e0 : (nm.toList == [110, 111, 45, 115, 116, 111, 114, 101]) = false) (e1 : (nm.toList == [110, 111, 45, 99, 97, 99, 104, 101]) = false) (e2 : (nm.toList == [112, 114, 105, 118, 97, 116, 101]) = false) (e3 : (nm.toList == [112, 117, 98, 108, 105, 99]) = false) (e4 : (nm.toList == [109, 117, 115, 116, 45, 114, 101, 118, 97, 108, 105, 100, 97, 116, 101]) = false) (e5 : (nm.toList == [112, 114, 111, 120, 121, 45, 114, 101, 118, 97, 108, 105, 100, 97, 116, 101]) = false) (e6 : (nm.toList == [111, 110, 108, 121, 45, 105, 102, 45, 99, 97, 99, 104, 101, 100]) = false) (e7 : (nm.toList == [109, 117, 115, 116, 45, 117, 110, 100, 101, 114, 115, 116, 97, 110, 100]) = false) (e8 : (nm.toList == [105, 109, 109, 117, 116, 97, 98, 108, 101]) = true)
    (hsec : ∀ w, Calls Tryd.prog 70 #[.string a] w fun e w' => e = .returned (.tuple #[.int .i64 n, .bool ok]) ∧ Below w.heap.size w w') :
    Calls Tryd.prog 60 #[.agg c.cells, .string nm, .bool has, .string a] w fun e w' => e = .returned (.agg (c.act 8 has n ok).cells) ∧ Below w.heap.size w w' := by
  have hu31 := Tryd.underlying50
  have hu29 := Tryd.underlying48
  obtain ⟨wa, hwa⟩ : ∃ wa, wa = w.alloc (.cells c.cells 50) := ⟨_, rfl⟩
  obtain ⟨w1, hw1⟩ : ∃ w1, w1 = wa.alloc (.cells #[.bool false, .bool false, .bool false, .bool false, .bool false, .bool false, .bool false, .bool false, .bool false, .bool false, .bool false, .bool false, .int .i64 0, .bool false, .int .i64 0, .bool false, .int .i64 0, .bool false, .int .i64 0, .bool false, .int .i64 0] 50) := ⟨_, rfl⟩
  have hsa : wa.heap.size = w.heap.size + 1 := by rw [hwa, World.size_alloc]
  have hb1 : Below w.heap.size w w1 := by rw [hw1, hwa]; exact ((Below.refl _ w).alloc (Nat.le_refl _) _).alloc (by rw [World.size_alloc]; omega) _
  have hzC : w1.heap[w.heap.size]? = some (.cells c.cells 50 (0, 0)) := by rw [hw1, hwa]; exact blk_alloc (blk_new w _) _
  have hzR : w1.heap[w.heap.size + 1]? = some (.cells Own.Ctl.zero.cells 50 (0, 0)) := by rw [hw1, ← hsa]; exact blk_new wa _
  have HNE := Aside0.mk (show w.heap.size + 1 ≠ w.heap.size by omega)
  have HB1 := Aside0.mk hb1
  have HZC := Aside0.mk hzC
  have HZR := Aside0.mk hzR
  clear hb1 hzC hzR hsa
  go_enter Tryd.func60, Tryd.ntmps60
  go_wp2_with (first | (go_at_call 70; rw [← hwa, ← hw1]; (with_reducible refine (hsec _).mono ?_); rintro e w2 ⟨rfl, hb⟩; have HC := Aside0.mk (blk_below HZC.out hb); have HR := Aside0.mk (blk_below HZR.out hb); have HB := Aside0.mk (HB1.out.trans (hb.mono HB1.out.size)); clear hb HZC HZR HB1 hwa hw1; have cl8 := (blk_cell HC.out 8).trans (show c.cells[8]? = some (.bool c.b8) from rfl); have fr8 := blk_frozen HC.out 8; skip) | (refine wpList_load_row rfl 50 _ rfl w.heap.size rfl 50 _ (0, 0) _ (blk_set HC.out _ _) hu31 rfl (rinfo.trans (by first | rfl | (simp only [Array.size_setIfInBounds]; rfl))) ?_) | ((with_reducible refine gate_store (t := 50) rfl ?_); refine wpList_store_row rfl 50 _ _ rfl (w.heap.size + 1) _ rfl rfl 50 Own.Ctl.zero.cells (blk_far HR.out HNE.out _) (rinfo.trans (by first | rfl | (simp only [Array.size_setIfInBounds]; rfl))) (by first | rfl | (simp only [Array.size_setIfInBounds]; rfl)) (by rw [ract_f c 8 has n ok (by decide)]; exact rone _) ?_))
  refine bodyPost_ret (results_cell_row rfl _ _ (w.heap.size + 1) 50 _ (0, 0) _ rfl (setRow_heap _ _ _ _ _ _ (blk_far HR.out HNE.out _)) hu31 rfl (rinfo.trans (by first | rfl | (simp only [Array.size_setIfInBounds]; rfl)))) rfl ?_
  exact ⟨by rw [ract_f c 8 has n ok (by decide)], rbelow_setRow (HB.out.setCell (Nat.le_refl _) _) (Nat.le_succ _) _⟩
set_option maxHeartbeats 1000000 in
set_option maxRecDepth 100000 in
theorem sprref14_directive.w9 (c : Own.Ctl) (nm a : ByteArray) (has : Bool) (n : Int) (ok : Bool) (w : World) (e0 : (nm.toList == [110, 111, 45, 115, 116, 111, 114, 101]) = false) (e1 : (nm.toList == [110, 111, 45, 99, 97, 99, 104, 101]) = false) (e2 : (nm.toList == [112, 114, 105, 118, 97, 116, 101]) = false) (e3 : (nm.toList == [112, 117, 98, 108, 105, 99]) = false) (e4 : (nm.toList == [109, 117, 115, 116, 45, 114, 101, 118, 97, 108, 105, 100, 97, 116, 101]) = false) (e5 : (nm.toList == [112, 114, 111, 120, 121, 45, 114, 101, 118, 97, 108, 105, 100, 97, 116, 101]) = false) (e6 : (nm.toList == [111, 110, 108, 121, 45, 105, 102, 45, 99, 97, 99, 104, 101, 100]) = false) (e7 : (nm.toList == [109, 117, 115, 116, 45, 117, 110, 100, 101, 114, 115, 116, 97, 110, 100]) = false) (e8 : (nm.toList == [105, 109, 109, 117, 116, 97, 98, 108, 101]) = false) (e9 : (nm.toList == [110, 111, 45, 116, 114, 97, 110, 115, 102, 111, 114, 109]) = true)
    (hsec : ∀ w, Calls Tryd.prog 70 #[.string a] w fun e w' => e = .returned (.tuple #[.int .i64 n, .bool ok]) ∧ Below w.heap.size w w') :
    Calls Tryd.prog 60 #[.agg c.cells, .string nm, .bool has, .string a] w fun e w' => e = .returned (.agg (c.act 9 has n ok).cells) ∧ Below w.heap.size w w' := by
  have hu31 := Tryd.underlying50
  have hu29 := Tryd.underlying48
  obtain ⟨wa, hwa⟩ : ∃ wa, wa = w.alloc (.cells c.cells 50) := ⟨_, rfl⟩
  obtain ⟨w1, hw1⟩ : ∃ w1, w1 = wa.alloc (.cells #[.bool false, .bool false, .bool false, .bool false, .bool false, .bool false, .bool false, .bool false, .bool false, .bool false, .bool false, .bool false, .int .i64 0, .bool false, .int .i64 0, .bool false, .int .i64 0, .bool false, .int .i64 0, .bool false, .int .i64 0] 50) := ⟨_, rfl⟩
  have hsa : wa.heap.size = w.heap.size + 1 := by rw [hwa, World.size_alloc]
  have hb1 : Below w.heap.size w w1 := by rw [hw1, hwa]; exact ((Below.refl _ w).alloc (Nat.le_refl _) _).alloc (by rw [World.size_alloc]; omega) _
  have hzC : w1.heap[w.heap.size]? = some (.cells c.cells 50 (0, 0)) := by rw [hw1, hwa]; exact blk_alloc (blk_new w _) _
  have hzR : w1.heap[w.heap.size + 1]? = some (.cells Own.Ctl.zero.cells 50 (0, 0)) := by rw [hw1, ← hsa]; exact blk_new wa _
  have HNE := Aside0.mk (show w.heap.size + 1 ≠ w.heap.size by omega)
  have HB1 := Aside0.mk hb1
  have HZC := Aside0.mk hzC
  have HZR := Aside0.mk hzR
  clear hb1 hzC hzR hsa
  go_enter Tryd.func60, Tryd.ntmps60
  go_wp2_with (first | (go_at_call 70; rw [← hwa, ← hw1]; (with_reducible refine (hsec _).mono ?_); rintro e w2 ⟨rfl, hb⟩; have HC := Aside0.mk (blk_below HZC.out hb); have HR := Aside0.mk (blk_below HZR.out hb); have HB := Aside0.mk (HB1.out.trans (hb.mono HB1.out.size)); clear hb HZC HZR HB1 hwa hw1; have cl9 := (blk_cell HC.out 9).trans (show c.cells[9]? = some (.bool c.b9) from rfl); have fr9 := blk_frozen HC.out 9; skip) | (refine wpList_load_row rfl 50 _ rfl w.heap.size rfl 50 _ (0, 0) _ (blk_set HC.out _ _) hu31 rfl (rinfo.trans (by first | rfl | (simp only [Array.size_setIfInBounds]; rfl))) ?_) | ((with_reducible refine gate_store (t := 50) rfl ?_); refine wpList_store_row rfl 50 _ _ rfl (w.heap.size + 1) _ rfl rfl 50 Own.Ctl.zero.cells (blk_far HR.out HNE.out _) (rinfo.trans (by first | rfl | (simp only [Array.size_setIfInBounds]; rfl))) (by first | rfl | (simp only [Array.size_setIfInBounds]; rfl)) (by rw [ract_f c 9 has n ok (by decide)]; exact rone _) ?_))
  refine bodyPost_ret (results_cell_row rfl _ _ (w.heap.size + 1) 50 _ (0, 0) _ rfl (setRow_heap _ _ _ _ _ _ (blk_far HR.out HNE.out _)) hu31 rfl (rinfo.trans (by first | rfl | (simp only [Array.size_setIfInBounds]; rfl)))) rfl ?_
  exact ⟨by rw [ract_f c 9 has n ok (by decide)], rbelow_setRow (HB.out.setCell (Nat.le_refl _) _) (Nat.le_succ _) _⟩
set_option maxHeartbeats 1000000 in
set_option maxRecDepth 100000 in
theorem sprref14_directive.w10 (c : Own.Ctl) (nm a : ByteArray) (has : Bool) (n : Int) (ok : Bool) (w : World) (e0 : (nm.toList == [110, 111, 45, 115, 116, 111, 114, 101]) = false) (e1 : (nm.toList == [110, 111, 45, 99, 97, 99, 104, 101]) = false) (e2 : (nm.toList == [112, 114, 105, 118, 97, 116, 101]) = false) (e3 : (nm.toList == [112, 117, 98, 108, 105, 99]) = false) (e4 : (nm.toList == [109, 117, 115, 116, 45, 114, 101, 118, 97, 108, 105, 100, 97, 116, 101]) = false) (e5 : (nm.toList == [112, 114, 111, 120, 121, 45, 114, 101, 118, 97, 108, 105, 100, 97, 116, 101]) = false) (e6 : (nm.toList == [111, 110, 108, 121, 45, 105, 102, 45, 99, 97, 99, 104, 101, 100]) = false) (e7 : (nm.toList == [109, 117, 115, 116, 45, 117, 110, 100, 101, 114, 115, 116, 97, 110, 100]) = false) (e8 : (nm.toList == [105, 109, 109, 117, 116, 97, 98, 108, 101]) = false) (e9 : (nm.toList == [110, 111, 45, 116, 114, 97, 110, 115, 102, 111, 114, 109]) = false) (e10 : (nm.toList == [109, 97, 120, 45, 97, 103, 101]) = true)
    (hsec : ∀ w, Calls Tryd.prog 70 #[.string a] w fun e w' => e = .returned (.tuple #[.int .i64 n, .bool ok]) ∧ Below w.heap.size w w') :
    Calls Tryd.prog 60 #[.agg c.cells, .string nm, .bool has, .string a] w fun e w' => e = .returned (.agg (c.act 10 has n ok).cells) ∧ Below w.heap.size w w' := by
  have hu31 := Tryd.underlying50
  have hu29 := Tryd.underlying48
  obtain ⟨wa, hwa⟩ : ∃ wa, wa = w.alloc (.cells c.cells 50) := ⟨_, rfl⟩
  obtain ⟨w1, hw1⟩ : ∃ w1, w1 = wa.alloc (.cells #[.bool false, .bool false, .bool false, .bool false, .bool false, .bool false, .bool false, .bool false, .bool false, .bool false, .bool false, .bool false, .int .i64 0, .bool false, .int .i64 0, .bool false, .int .i64 0, .bool false, .int .i64 0, .bool false, .int .i64 0] 50) := ⟨_, rfl⟩
  have hsa : wa.heap.size = w.heap.size + 1 := by rw [hwa, World.size_alloc]
  have hb1 : Below w.heap.size w w1 := by rw [hw1, hwa]; exact ((Below.refl _ w).alloc (Nat.le_refl _) _).alloc (by rw [World.size_alloc]; omega) _
  have hzC : w1.heap[w.heap.size]? = some (.cells c.cells 50 (0, 0)) := by rw [hw1, hwa]; exact blk_alloc (blk_new w _) _
  have hzR : w1.heap[w.heap.size + 1]? = some (.cells Own.Ctl.zero.cells 50 (0, 0)) := by rw [hw1, ← hsa]; exact blk_new wa _
  have HNE := Aside0.mk (show w.heap.size + 1 ≠ w.heap.size by omega)
  have HB1 := Aside0.mk hb1
  have HZC := Aside0.mk hzC
  have HZR := Aside0.mk hzR
  clear hb1 hzC hzR hsa
  have hcall := fun h x w => sprref14_least.own h x n w
  go_enter Tryd.func60, Tryd.ntmps60
  go_wp2_with (first | (go_at_call 70; rw [← hwa, ← hw1]; (with_reducible refine (hsec _).mono ?_); rintro e w2 ⟨rfl, hb⟩; have HC := Aside0.mk (blk_below HZC.out hb); have HR := Aside0.mk (blk_below HZR.out hb); have HB := Aside0.mk (HB1.out.trans (hb.mono HB1.out.size)); clear hb HZC HZR HB1 hwa hw1; have cl11 := (blk_cell HC.out 11).trans (show c.cells[11]? = some (.bool c.h0) from rfl); have fr11 := blk_frozen HC.out 11; have cl12 := (blk_cell HC.out 12).trans (show c.cells[12]? = some (.int .i64 c.n0) from rfl); have fr12 := blk_frozen HC.out 12; skip) | (go_at_call 71; (with_reducible refine (hcall _ _ _).mono ?_); rintro e w3 ⟨rfl, hb⟩; have HC3 := Aside0.mk (blk_below HC.out hb); have HR3 := Aside0.mk (blk_below HR.out hb); have HB3 := Aside0.mk (HB.out.trans (hb.mono HB.out.size)); clear hb HC HR HB cl11 fr11 cl12 fr12; have HC := HC3; have HR := HR3; have HB := HB3; clear HC3 HR3 HB3; have cl11 := (blk_cell HC.out 11).trans (show c.cells[11]? = some (.bool c.h0) from rfl); have fr11 := blk_frozen HC.out 11; have cl12 := (blk_cell HC.out 12).trans (show c.cells[12]? = some (.int .i64 c.n0) from rfl); have fr12 := blk_frozen HC.out 12; skip) | (refine wpList_load_row rfl 50 _ rfl w.heap.size rfl 50 _ (0, 0) _ (blk_set (blk_set HC.out _ _) _ _) hu31 rfl (rinfo.trans (by first | rfl | (simp only [Array.size_setIfInBounds]; rfl))) ?_) | ((with_reducible refine gate_store (t := 50) rfl ?_); refine wpList_store_row rfl 50 _ _ rfl (w.heap.size + 1) _ rfl rfl 50 Own.Ctl.zero.cells (blk_far (blk_far HR.out HNE.out _) HNE.out _) (rinfo.trans (by first | rfl | (simp only [Array.size_setIfInBounds]; rfl))) (by first | rfl | (simp only [Array.size_setIfInBounds]; rfl)) (by rw [ract_10 c has n ok]; exact rone _) ?_))
  refine bodyPost_ret (results_cell_row rfl _ _ (w.heap.size + 1) 50 _ (0, 0) _ rfl (setRow_heap _ _ _ _ _ _ (blk_far (blk_far HR.out HNE.out _) HNE.out _)) hu31 rfl (rinfo.trans (by first | rfl | (simp only [Array.size_setIfInBounds]; rfl)))) rfl ?_
  exact ⟨by rw [ract_10 c has n ok], rbelow_setRow ((HB.out.setCell (Nat.le_refl _) _).setCell (Nat.le_refl _) _) (Nat.le_succ _) _⟩
set_option maxHeartbeats 1000000 in
set_option maxRecDepth 100000 in
theorem sprref14_directive.w11 (c : Own.Ctl) (nm a : ByteArray) (has : Bool) (n : Int) (ok : Bool) (w : World) (e0 : (nm.toList == [110, 111, 45, 115, 116, 111, 114, 101]) = false) (e1 : (nm.toList == [110, 111, 45, 99, 97, 99, 104, 101]) = false) (e2 : (nm.toList == [112, 114, 105, 118, 97, 116, 101]) = false) (e3 : (nm.toList == [112, 117, 98, 108, 105, 99]) = false) (e4 : (nm.toList == [109, 117, 115, 116, 45, 114, 101, 118, 97, 108, 105, 100, 97, 116, 101]) = false) (e5 : (nm.toList == [112, 114, 111, 120, 121, 45, 114, 101, 118, 97, 108, 105, 100, 97, 116, 101]) = false) (e6 : (nm.toList == [111, 110, 108, 121, 45, 105, 102, 45, 99, 97, 99, 104, 101, 100]) = false) (e7 : (nm.toList == [109, 117, 115, 116, 45, 117, 110, 100, 101, 114, 115, 116, 97, 110, 100]) = false) (e8 : (nm.toList == [105, 109, 109, 117, 116, 97, 98, 108, 101]) = false) (e9 : (nm.toList == [110, 111, 45, 116, 114, 97, 110, 115, 102, 111, 114, 109]) = false) (e10 : (nm.toList == [109, 97, 120, 45, 97, 103, 101]) = false) (e11 : (nm.toList == [115, 45, 109, 97, 120, 97, 103, 101]) = true)
    (hsec : ∀ w, Calls Tryd.prog 70 #[.string a] w fun e w' => e = .returned (.tuple #[.int .i64 n, .bool ok]) ∧ Below w.heap.size w w') :
    Calls Tryd.prog 60 #[.agg c.cells, .string nm, .bool has, .string a] w fun e w' => e = .returned (.agg (c.act 11 has n ok).cells) ∧ Below w.heap.size w w' := by
  have hu31 := Tryd.underlying50
  have hu29 := Tryd.underlying48
  obtain ⟨wa, hwa⟩ : ∃ wa, wa = w.alloc (.cells c.cells 50) := ⟨_, rfl⟩
  obtain ⟨w1, hw1⟩ : ∃ w1, w1 = wa.alloc (.cells #[.bool false, .bool false, .bool false, .bool false, .bool false, .bool false, .bool false, .bool false, .bool false, .bool false, .bool false, .bool false, .int .i64 0, .bool false, .int .i64 0, .bool false, .int .i64 0, .bool false, .int .i64 0, .bool false, .int .i64 0] 50) := ⟨_, rfl⟩
  have hsa : wa.heap.size = w.heap.size + 1 := by rw [hwa, World.size_alloc]
  have hb1 : Below w.heap.size w w1 := by rw [hw1, hwa]; exact ((Below.refl _ w).alloc (Nat.le_refl _) _).alloc (by rw [World.size_alloc]; omega) _
  have hzC : w1.heap[w.heap.size]? = some (.cells c.cells 50 (0, 0)) := by rw [hw1, hwa]; exact blk_alloc (blk_new w _) _
  have hzR : w1.heap[w.heap.size + 1]? = some (.cells Own.Ctl.zero.cells 50 (0, 0)) := by rw [hw1, ← hsa]; exact blk_new wa _
  have HNE := Aside0.mk (show w.heap.size + 1 ≠ w.heap.size by omega)
  have HB1 := Aside0.mk hb1
  have HZC := Aside0.mk hzC
  have HZR := Aside0.mk hzR
  clear hb1 hzC hzR hsa
  have hcall := fun h x w => sprref14_least.own h x n w
  go_enter Tryd.func60, Tryd.ntmps60
  go_wp2_with (first | (go_at_call 70; rw [← hwa, ← hw1]; (with_reducible refine (hsec _).mono ?_); rintro e w2 ⟨rfl, hb⟩; have HC := Aside0.mk (blk_below HZC.out hb); have HR := Aside0.mk (blk_below HZR.out hb); have HB := Aside0.mk (HB1.out.trans (hb.mono HB1.out.size)); clear hb HZC HZR HB1 hwa hw1; have cl13 := (blk_cell HC.out 13).trans (show c.cells[13]? = some (.bool c.h1) from rfl); have fr13 := blk_frozen HC.out 13; have cl14 := (blk_cell HC.out 14).trans (show c.cells[14]? = some (.int .i64 c.n1) from rfl); have fr14 := blk_frozen HC.out 14; skip) | (go_at_call 71; (with_reducible refine (hcall _ _ _).mono ?_); rintro e w3 ⟨rfl, hb⟩; have HC3 := Aside0.mk (blk_below HC.out hb); have HR3 := Aside0.mk (blk_below HR.out hb); have HB3 := Aside0.mk (HB.out.trans (hb.mono HB.out.size)); clear hb HC HR HB cl13 fr13 cl14 fr14; have HC := HC3; have HR := HR3; have HB := HB3; clear HC3 HR3 HB3; have cl13 := (blk_cell HC.out 13).trans (show c.cells[13]? = some (.bool c.h1) from rfl); have fr13 := blk_frozen HC.out 13; have cl14 := (blk_cell HC.out 14).trans (show c.cells[14]? = some (.int .i64 c.n1) from rfl); have fr14 := blk_frozen HC.out 14; skip) | (refine wpList_load_row rfl 50 _ rfl w.heap.size rfl 50 _ (0, 0) _ (blk_set (blk_set HC.out _ _) _ _) hu31 rfl (rinfo.trans (by first | rfl | (simp only [Array.size_setIfInBounds]; rfl))) ?_) | ((with_reducible refine gate_store (t := 50) rfl ?_); refine wpList_store_row rfl 50 _ _ rfl (w.heap.size + 1) _ rfl rfl 50 Own.Ctl.zero.cells (blk_far (blk_far HR.out HNE.out _) HNE.out _) (rinfo.trans (by first | rfl | (simp only [Array.size_setIfInBounds]; rfl))) (by first | rfl | (simp only [Array.size_setIfInBounds]; rfl)) (by rw [ract_11 c has n ok]; exact rone _) ?_))
  refine bodyPost_ret (results_cell_row rfl _ _ (w.heap.size + 1) 50 _ (0, 0) _ rfl (setRow_heap _ _ _ _ _ _ (blk_far (blk_far HR.out HNE.out _) HNE.out _)) hu31 rfl (rinfo.trans (by first | rfl | (simp only [Array.size_setIfInBounds]; rfl)))) rfl ?_
  exact ⟨by rw [ract_11 c has n ok], rbelow_setRow ((HB.out.setCell (Nat.le_refl _) _).setCell (Nat.le_refl _) _) (Nat.le_succ _) _⟩
set_option maxHeartbeats 1000000 in
set_option maxRecDepth 100000 in
theorem sprref14_directive.w12 (c : Own.Ctl) (nm a : ByteArray) (has : Bool) (n : Int) (ok : Bool) (w : World) (e0 : (nm.toList == [110, 111, 45, 115, 116, 111, 114, 101]) = false) (e1 : (nm.toList == [110, 111, 45, 99, 97, 99, 104, 101]) = false) (e2 : (nm.toList == [112, 114, 105, 118, 97, 116, 101]) = false) (e3 : (nm.toList == [112, 117, 98, 108, 105, 99]) = false) (e4 : (nm.toList == [109, 117, 115, 116, 45, 114, 101, 118, 97, 108, 105, 100, 97, 116, 101]) = false) (e5 : (nm.toList == [112, 114, 111, 120, 121, 45, 114, 101, 118, 97, 108, 105, 100, 97, 116, 101]) = false) (e6 : (nm.toList == [111, 110, 108, 121, 45, 105, 102, 45, 99, 97, 99, 104, 101, 100]) = false) (e7 : (nm.toList == [109, 117, 115, 116, 45, 117, 110, 100, 101, 114, 115, 116, 97, 110, 100]) = false) (e8 : (nm.toList == [105, 109, 109, 117, 116, 97, 98, 108, 101]) = false) (e9 : (nm.toList == [110, 111, 45, 116, 114, 97, 110, 115, 102, 111, 114, 109]) = false) (e10 : (nm.toList == [109, 97, 120, 45, 97, 103, 101]) = false) (e11 : (nm.toList == [115, 45, 109, 97, 120, 97, 103, 101]) = false) (e12 : (nm.toList == [115, 116, 97, 108, 101, 45, 105, 102, 45, 101, 114, 114, 111, 114]) = true)
    (hsec : ∀ w, Calls Tryd.prog 70 #[.string a] w fun e w' => e = .returned (.tuple #[.int .i64 n, .bool ok]) ∧ Below w.heap.size w w') :
    Calls Tryd.prog 60 #[.agg c.cells, .string nm, .bool has, .string a] w fun e w' => e = .returned (.agg (c.act 12 has n ok).cells) ∧ Below w.heap.size w w' := by
  have hu31 := Tryd.underlying50
  have hu29 := Tryd.underlying48
  obtain ⟨wa, hwa⟩ : ∃ wa, wa = w.alloc (.cells c.cells 50) := ⟨_, rfl⟩
  obtain ⟨w1, hw1⟩ : ∃ w1, w1 = wa.alloc (.cells #[.bool false, .bool false, .bool false, .bool false, .bool false, .bool false, .bool false, .bool false, .bool false, .bool false, .bool false, .bool false, .int .i64 0, .bool false, .int .i64 0, .bool false, .int .i64 0, .bool false, .int .i64 0, .bool false, .int .i64 0] 50) := ⟨_, rfl⟩
  have hsa : wa.heap.size = w.heap.size + 1 := by rw [hwa, World.size_alloc]
  have hb1 : Below w.heap.size w w1 := by rw [hw1, hwa]; exact ((Below.refl _ w).alloc (Nat.le_refl _) _).alloc (by rw [World.size_alloc]; omega) _
  have hzC : w1.heap[w.heap.size]? = some (.cells c.cells 50 (0, 0)) := by rw [hw1, hwa]; exact blk_alloc (blk_new w _) _
  have hzR : w1.heap[w.heap.size + 1]? = some (.cells Own.Ctl.zero.cells 50 (0, 0)) := by rw [hw1, ← hsa]; exact blk_new wa _
  have HNE := Aside0.mk (show w.heap.size + 1 ≠ w.heap.size by omega)
  have HB1 := Aside0.mk hb1
  have HZC := Aside0.mk hzC
  have HZR := Aside0.mk hzR
  clear hb1 hzC hzR hsa
  have hcall := fun h x w => sprref14_least.own h x n w
  go_enter Tryd.func60, Tryd.ntmps60
  go_wp2_with (first | (go_at_call 70; rw [← hwa, ← hw1]; (with_reducible refine (hsec _).mono ?_); rintro e w2 ⟨rfl, hb⟩; have HC := Aside0.mk (blk_below HZC.out hb); have HR := Aside0.mk (blk_below HZR.out hb); have HB := Aside0.mk (HB1.out.trans (hb.mono HB1.out.size)); clear hb HZC HZR HB1 hwa hw1; have cl19 := (blk_cell HC.out 19).trans (show c.cells[19]? = some (.bool c.h4) from rfl); have fr19 := blk_frozen HC.out 19; have cl20 := (blk_cell HC.out 20).trans (show c.cells[20]? = some (.int .i64 c.n4) from rfl); have fr20 := blk_frozen HC.out 20; skip) | (go_at_call 71; (with_reducible refine (hcall _ _ _).mono ?_); rintro e w3 ⟨rfl, hb⟩; have HC3 := Aside0.mk (blk_below HC.out hb); have HR3 := Aside0.mk (blk_below HR.out hb); have HB3 := Aside0.mk (HB.out.trans (hb.mono HB.out.size)); clear hb HC HR HB cl19 fr19 cl20 fr20; have HC := HC3; have HR := HR3; have HB := HB3; clear HC3 HR3 HB3; have cl19 := (blk_cell HC.out 19).trans (show c.cells[19]? = some (.bool c.h4) from rfl); have fr19 := blk_frozen HC.out 19; have cl20 := (blk_cell HC.out 20).trans (show c.cells[20]? = some (.int .i64 c.n4) from rfl); have fr20 := blk_frozen HC.out 20; skip) | (refine wpList_load_row rfl 50 _ rfl w.heap.size rfl 50 _ (0, 0) _ (blk_set (blk_set HC.out _ _) _ _) hu31 rfl (rinfo.trans (by first | rfl | (simp only [Array.size_setIfInBounds]; rfl))) ?_) | ((with_reducible refine gate_store (t := 50) rfl ?_); refine wpList_store_row rfl 50 _ _ rfl (w.heap.size + 1) _ rfl rfl 50 Own.Ctl.zero.cells (blk_far (blk_far HR.out HNE.out _) HNE.out _) (rinfo.trans (by first | rfl | (simp only [Array.size_setIfInBounds]; rfl))) (by first | rfl | (simp only [Array.size_setIfInBounds]; rfl)) (by rw [ract_12 c has n ok]; exact rone _) ?_))
  refine bodyPost_ret (results_cell_row rfl _ _ (w.heap.size + 1) 50 _ (0, 0) _ rfl (setRow_heap _ _ _ _ _ _ (blk_far (blk_far HR.out HNE.out _) HNE.out _)) hu31 rfl (rinfo.trans (by first | rfl | (simp only [Array.size_setIfInBounds]; rfl)))) rfl ?_
  exact ⟨by rw [ract_12 c has n ok], rbelow_setRow ((HB.out.setCell (Nat.le_refl _) _).setCell (Nat.le_refl _) _) (Nat.le_succ _) _⟩
set_option maxHeartbeats 1000000 in
set_option maxRecDepth 100000 in
theorem sprref14_directive.w13t (c : Own.Ctl) (nm a : ByteArray) (has : Bool) (n : Int) (w : World) (e0 : (nm.toList == [110, 111, 45, 115, 116, 111, 114, 101]) = false) (e1 : (nm.toList == [110, 111, 45, 99, 97, 99, 104, 101]) = false) (e2 : (nm.toList == [112, 114, 105, 118, 97, 116, 101]) = false) (e3 : (nm.toList == [112, 117, 98, 108, 105, 99]) = false) (e4 : (nm.toList == [109, 117, 115, 116, 45, 114, 101, 118, 97, 108, 105, 100, 97, 116, 101]) = false) (e5 : (nm.toList == [112, 114, 111, 120, 121, 45, 114, 101, 118, 97, 108, 105, 100, 97, 116, 101]) = false) (e6 : (nm.toList == [111, 110, 108, 121, 45, 105, 102, 45, 99, 97, 99, 104, 101, 100]) = false) (e7 : (nm.toList == [109, 117, 115, 116, 45, 117, 110, 100, 101, 114, 115, 116, 97, 110, 100]) = false) (e8 : (nm.toList == [105, 109, 109, 117, 116, 97, 98, 108, 101]) = false) (e9 : (nm.toList == [110, 111, 45, 116, 114, 97, 110, 115, 102, 111, 114, 109]) = false) (e10 : (nm.toList == [109, 97, 120, 45, 97, 103, 101]) = false) (e11 : (nm.toList == [115, 45, 109, 97, 120, 97, 103, 101]) = false) (e12 : (nm.toList == [115, 116, 97, 108, 101, 45, 105, 102, 45, 101, 114, 114, 111, 114]) = false) (e14 : (nm.toList == [109, 97, 120, 45, 115, 116, 97, 108, 101]) = false) (e13 : (nm.toList == [109, 105, 110, 45, 102, 114, 101, 115, 104]) = true)
    (hsec : ∀ w, Calls Tryd.prog 70 #[.string a] w fun e w' => e = .returned (.tuple #[.int .i64 n, .bool true]) ∧ Below w.heap.size w w') :
    Calls Tryd.prog 60 #[.agg c.cells, .string nm, .bool has, .string a] w fun e w' => e = .returned (.agg (c.act 13 has n true).cells) ∧ Below w.heap.size w w' := by
  have hu31 := Tryd.underlying50
  have hu29 := Tryd.underlying48
  obtain ⟨wa, hwa⟩ : ∃ wa, wa = w.alloc (.cells c.cells 50) := ⟨_, rfl⟩
  obtain ⟨w1, hw1⟩ : ∃ w1, w1 = wa.alloc (.cells #[.bool false, .bool false, .bool false, .bool false, .bool false, .bool false, .bool false, .bool false, .bool false, .bool false, .bool false, .bool false, .int .i64 0, .bool false, .int .i64 0, .bool false, .int .i64 0, .bool false, .int .i64 0, .bool false, .int .i64 0] 50) := ⟨_, rfl⟩
  have hsa : wa.heap.size = w.heap.size + 1 := by rw [hwa, World.size_alloc]
  have hb1 : Below w.heap.size w w1 := by rw [hw1, hwa]; exact ((Below.refl _ w).alloc (Nat.le_refl _) _).alloc (by rw [World.size_alloc]; omega) _
  have hzC : w1.heap[w.heap.size]? = some (.cells c.cells 50 (0, 0)) := by rw [hw1, hwa]; exact blk_alloc (blk_new w _) _
  have hzR : w1.heap[w.heap.size + 1]? = some (.cells Own.Ctl.zero.cells 50 (0, 0)) := by rw [hw1, ← hsa]; exact blk_new wa _
  have HNE := Aside0.mk (show w.heap.size + 1 ≠ w.heap.size by omega)
  have HB1 := Aside0.mk hb1
  have HZC := Aside0.mk hzC
  have HZR := Aside0.mk hzR
  clear hb1 hzC hzR hsa
  have hcall := fun h x w => sprref14_greatest.own h x n w
  go_enter Tryd.func60, Tryd.ntmps60
  go_wp2_with (first | (go_at_call 70; rw [← hwa, ← hw1]; (with_reducible refine (hsec _).mono ?_); rintro e w2 ⟨rfl, hb⟩; have HC := Aside0.mk (blk_below HZC.out hb); have HR := Aside0.mk (blk_below HZR.out hb); have HB := Aside0.mk (HB1.out.trans (hb.mono HB1.out.size)); clear hb HZC HZR HB1 hwa hw1; have cl17 := (blk_cell HC.out 17).trans (show c.cells[17]? = some (.bool c.h3) from rfl); have fr17 := blk_frozen HC.out 17; have cl18 := (blk_cell HC.out 18).trans (show c.cells[18]? = some (.int .i64 c.n3) from rfl); have fr18 := blk_frozen HC.out 18; skip) | (go_at_call 72; (with_reducible refine (hcall _ _ _).mono ?_); rintro e w3 ⟨rfl, hb⟩; have HC3 := Aside0.mk (blk_below HC.out hb); have HR3 := Aside0.mk (blk_below HR.out hb); have HB3 := Aside0.mk (HB.out.trans (hb.mono HB.out.size)); clear hb HC HR HB cl17 fr17 cl18 fr18; have HC := HC3; have HR := HR3; have HB := HB3; clear HC3 HR3 HB3; have cl17 := (blk_cell HC.out 17).trans (show c.cells[17]? = some (.bool c.h3) from rfl); have fr17 := blk_frozen HC.out 17; have cl18 := (blk_cell HC.out 18).trans (show c.cells[18]? = some (.int .i64 c.n3) from rfl); have fr18 := blk_frozen HC.out 18; skip) | (refine wpList_load_row rfl 50 _ rfl w.heap.size rfl 50 _ (0, 0) _ (blk_set (blk_set HC.out _ _) _ _) hu31 rfl (rinfo.trans (by first | rfl | (simp only [Array.size_setIfInBounds]; rfl))) ?_) | ((with_reducible refine gate_store (t := 50) rfl ?_); refine wpList_store_row rfl 50 _ _ rfl (w.heap.size + 1) _ rfl rfl 50 Own.Ctl.zero.cells (blk_far (blk_far HR.out HNE.out _) HNE.out _) (rinfo.trans (by first | rfl | (simp only [Array.size_setIfInBounds]; rfl))) (by first | rfl | (simp only [Array.size_setIfInBounds]; rfl)) (by rw [ract_13t c has n]; exact rone _) ?_))
  refine bodyPost_ret (results_cell_row rfl _ _ (w.heap.size + 1) 50 _ (0, 0) _ rfl (setRow_heap _ _ _ _ _ _ (blk_far (blk_far HR.out HNE.out _) HNE.out _)) hu31 rfl (rinfo.trans (by first | rfl | (simp only [Array.size_setIfInBounds]; rfl)))) rfl ?_
  exact ⟨by rw [ract_13t c has n], rbelow_setRow ((HB.out.setCell (Nat.le_refl _) _).setCell (Nat.le_refl _) _) (Nat.le_succ _) _⟩
set_option maxHeartbeats 1000000 in
set_option maxRecDepth 100000 in
theorem sprref14_directive.w13f (c : Own.Ctl) (nm a : ByteArray) (has : Bool) (n : Int) (w : World) (e0 : (nm.toList == [110, 111, 45, 115, 116, 111, 114, 101]) = false) (e1 : (nm.toList == [110, 111, 45, 99, 97, 99, 104, 101]) = false) (e2 : (nm.toList == [112, 114, 105, 118, 97, 116, 101]) = false) (e3 : (nm.toList == [112, 117, 98, 108, 105, 99]) = false) (e4 : (nm.toList == [109, 117, 115, 116, 45, 114, 101, 118, 97, 108, 105, 100, 97, 116, 101]) = false) (e5 : (nm.toList == [112, 114, 111, 120, 121, 45, 114, 101, 118, 97, 108, 105, 100, 97, 116, 101]) = false) (e6 : (nm.toList == [111, 110, 108, 121, 45, 105, 102, 45, 99, 97, 99, 104, 101, 100]) = false) (e7 : (nm.toList == [109, 117, 115, 116, 45, 117, 110, 100, 101, 114, 115, 116, 97, 110, 100]) = false) (e8 : (nm.toList == [105, 109, 109, 117, 116, 97, 98, 108, 101]) = false) (e9 : (nm.toList == [110, 111, 45, 116, 114, 97, 110, 115, 102, 111, 114, 109]) = false) (e10 : (nm.toList == [109, 97, 120, 45, 97, 103, 101]) = false) (e11 : (nm.toList == [115, 45, 109, 97, 120, 97, 103, 101]) = false) (e12 : (nm.toList == [115, 116, 97, 108, 101, 45, 105, 102, 45, 101, 114, 114, 111, 114]) = false) (e14 : (nm.toList == [109, 97, 120, 45, 115, 116, 97, 108, 101]) = false) (e13 : (nm.toList == [109, 105, 110, 45, 102, 114, 101, 115, 104]) = true)
    (hsec : ∀ w, Calls Tryd.prog 70 #[.string a] w fun e w' => e = .returned (.tuple #[.int .i64 n, .bool false]) ∧ Below w.heap.size w w') :
    Calls Tryd.prog 60 #[.agg c.cells, .string nm, .bool has, .string a] w fun e w' => e = .returned (.agg (c.act 13 has n false).cells) ∧ Below w.heap.size w w' := by
  have hu31 := Tryd.underlying50
  have hu29 := Tryd.underlying48
  obtain ⟨wa, hwa⟩ : ∃ wa, wa = w.alloc (.cells c.cells 50) := ⟨_, rfl⟩
  obtain ⟨w1, hw1⟩ : ∃ w1, w1 = wa.alloc (.cells #[.bool false, .bool false, .bool false, .bool false, .bool false, .bool false, .bool false, .bool false, .bool false, .bool false, .bool false, .bool false, .int .i64 0, .bool false, .int .i64 0, .bool false, .int .i64 0, .bool false, .int .i64 0, .bool false, .int .i64 0] 50) := ⟨_, rfl⟩
  have hsa : wa.heap.size = w.heap.size + 1 := by rw [hwa, World.size_alloc]
  have hb1 : Below w.heap.size w w1 := by rw [hw1, hwa]; exact ((Below.refl _ w).alloc (Nat.le_refl _) _).alloc (by rw [World.size_alloc]; omega) _
  have hzC : w1.heap[w.heap.size]? = some (.cells c.cells 50 (0, 0)) := by rw [hw1, hwa]; exact blk_alloc (blk_new w _) _
  have hzR : w1.heap[w.heap.size + 1]? = some (.cells Own.Ctl.zero.cells 50 (0, 0)) := by rw [hw1, ← hsa]; exact blk_new wa _
  have HNE := Aside0.mk (show w.heap.size + 1 ≠ w.heap.size by omega)
  have HB1 := Aside0.mk hb1
  have HZC := Aside0.mk hzC
  have HZR := Aside0.mk hzR
  clear hb1 hzC hzR hsa
  have hcall := fun h x w => sprref14_greatest.own h x 2147483648 w
  go_enter Tryd.func60, Tryd.ntmps60
  go_wp2_with (first | (go_at_call 70; rw [← hwa, ← hw1]; (with_reducible refine (hsec _).mono ?_); rintro e w2 ⟨rfl, hb⟩; have HC := Aside0.mk (blk_below HZC.out hb); have HR := Aside0.mk (blk_below HZR.out hb); have HB := Aside0.mk (HB1.out.trans (hb.mono HB1.out.size)); clear hb HZC HZR HB1 hwa hw1; have cl17 := (blk_cell HC.out 17).trans (show c.cells[17]? = some (.bool c.h3) from rfl); have fr17 := blk_frozen HC.out 17; have cl18 := (blk_cell HC.out 18).trans (show c.cells[18]? = some (.int .i64 c.n3) from rfl); have fr18 := blk_frozen HC.out 18; skip) | (go_at_call 72; (with_reducible refine (hcall _ _ _).mono ?_); rintro e w3 ⟨rfl, hb⟩; have HC3 := Aside0.mk (blk_below HC.out hb); have HR3 := Aside0.mk (blk_below HR.out hb); have HB3 := Aside0.mk (HB.out.trans (hb.mono HB.out.size)); clear hb HC HR HB cl17 fr17 cl18 fr18; have HC := HC3; have HR := HR3; have HB := HB3; clear HC3 HR3 HB3; have cl17 := (blk_cell HC.out 17).trans (show c.cells[17]? = some (.bool c.h3) from rfl); have fr17 := blk_frozen HC.out 17; have cl18 := (blk_cell HC.out 18).trans (show c.cells[18]? = some (.int .i64 c.n3) from rfl); have fr18 := blk_frozen HC.out 18; skip) | (refine wpList_load_row rfl 50 _ rfl w.heap.size rfl 50 _ (0, 0) _ (blk_set (blk_set HC.out _ _) _ _) hu31 rfl (rinfo.trans (by first | rfl | (simp only [Array.size_setIfInBounds]; rfl))) ?_) | ((with_reducible refine gate_store (t := 50) rfl ?_); refine wpList_store_row rfl 50 _ _ rfl (w.heap.size + 1) _ rfl rfl 50 Own.Ctl.zero.cells (blk_far (blk_far HR.out HNE.out _) HNE.out _) (rinfo.trans (by first | rfl | (simp only [Array.size_setIfInBounds]; rfl))) (by first | rfl | (simp only [Array.size_setIfInBounds]; rfl)) (by rw [ract_13f c has n]; exact rone _) ?_))
  refine bodyPost_ret (results_cell_row rfl _ _ (w.heap.size + 1) 50 _ (0, 0) _ rfl (setRow_heap _ _ _ _ _ _ (blk_far (blk_far HR.out HNE.out _) HNE.out _)) hu31 rfl (rinfo.trans (by first | rfl | (simp only [Array.size_setIfInBounds]; rfl)))) rfl ?_
  exact ⟨by rw [ract_13f c has n], rbelow_setRow ((HB.out.setCell (Nat.le_refl _) _).setCell (Nat.le_refl _) _) (Nat.le_succ _) _⟩
set_option maxHeartbeats 1000000 in
set_option maxRecDepth 100000 in
theorem sprref14_directive.w14t (c : Own.Ctl) (nm a : ByteArray) (n : Int) (ok : Bool) (w : World) (e0 : (nm.toList == [110, 111, 45, 115, 116, 111, 114, 101]) = false) (e1 : (nm.toList == [110, 111, 45, 99, 97, 99, 104, 101]) = false) (e2 : (nm.toList == [112, 114, 105, 118, 97, 116, 101]) = false) (e3 : (nm.toList == [112, 117, 98, 108, 105, 99]) = false) (e4 : (nm.toList == [109, 117, 115, 116, 45, 114, 101, 118, 97, 108, 105, 100, 97, 116, 101]) = false) (e5 : (nm.toList == [112, 114, 111, 120, 121, 45, 114, 101, 118, 97, 108, 105, 100, 97, 116, 101]) = false) (e6 : (nm.toList == [111, 110, 108, 121, 45, 105, 102, 45, 99, 97, 99, 104, 101, 100]) = false) (e7 : (nm.toList == [109, 117, 115, 116, 45, 117, 110, 100, 101, 114, 115, 116, 97, 110, 100]) = false) (e8 : (nm.toList == [105, 109, 109, 117, 116, 97, 98, 108, 101]) = false) (e9 : (nm.toList == [110, 111, 45, 116, 114, 97, 110, 115, 102, 111, 114, 109]) = false) (e10 : (nm.toList == [109, 97, 120, 45, 97, 103, 101]) = false) (e11 : (nm.toList == [115, 45, 109, 97, 120, 97, 103, 101]) = false) (e12 : (nm.toList == [115, 116, 97, 108, 101, 45, 105, 102, 45, 101, 114, 114, 111, 114]) = false) (e14 : (nm.toList == [109, 97, 120, 45, 115, 116, 97, 108, 101]) = true)
    (hsec : ∀ w, Calls Tryd.prog 70 #[.string a] w fun e w' => e = .returned (.tuple #[.int .i64 n, .bool ok]) ∧ Below w.heap.size w w') :
    Calls Tryd.prog 60 #[.agg c.cells, .string nm, .bool true, .string a] w fun e w' => e = .returned (.agg (c.act 14 true n ok).cells) ∧ Below w.heap.size w w' := by
  have hu31 := Tryd.underlying50
  have hu29 := Tryd.underlying48
  obtain ⟨wa, hwa⟩ : ∃ wa, wa = w.alloc (.cells c.cells 50) := ⟨_, rfl⟩
  obtain ⟨w1, hw1⟩ : ∃ w1, w1 = wa.alloc (.cells #[.bool false, .bool false, .bool false, .bool false, .bool false, .bool false, .bool false, .bool false, .bool false, .bool false, .bool false, .bool false, .int .i64 0, .bool false, .int .i64 0, .bool false, .int .i64 0, .bool false, .int .i64 0, .bool false, .int .i64 0] 50) := ⟨_, rfl⟩
  have hsa : wa.heap.size = w.heap.size + 1 := by rw [hwa, World.size_alloc]
  have hb1 : Below w.heap.size w w1 := by rw [hw1, hwa]; exact ((Below.refl _ w).alloc (Nat.le_refl _) _).alloc (by rw [World.size_alloc]; omega) _
  have hzC : w1.heap[w.heap.size]? = some (.cells c.cells 50 (0, 0)) := by rw [hw1, hwa]; exact blk_alloc (blk_new w _) _
  have hzR : w1.heap[w.heap.size + 1]? = some (.cells Own.Ctl.zero.cells 50 (0, 0)) := by rw [hw1, ← hsa]; exact blk_new wa _
  have HNE := Aside0.mk (show w.heap.size + 1 ≠ w.heap.size by omega)
  have HB1 := Aside0.mk hb1
  have HZC := Aside0.mk hzC
  have HZR := Aside0.mk hzR
  clear hb1 hzC hzR hsa
  have hcall := fun h x w => sprref14_least.own h x n w
  go_enter Tryd.func60, Tryd.ntmps60
  go_wp2_with (first | (go_at_call 70; rw [← hwa, ← hw1]; (with_reducible refine (hsec _).mono ?_); rintro e w2 ⟨rfl, hb⟩; have HC := Aside0.mk (blk_below HZC.out hb); have HR := Aside0.mk (blk_below HZR.out hb); have HB := Aside0.mk (HB1.out.trans (hb.mono HB1.out.size)); clear hb HZC HZR HB1 hwa hw1; have cl15 := (blk_cell HC.out 15).trans (show c.cells[15]? = some (.bool c.h2) from rfl); have fr15 := blk_frozen HC.out 15; have cl16 := (blk_cell HC.out 16).trans (show c.cells[16]? = some (.int .i64 c.n2) from rfl); have fr16 := blk_frozen HC.out 16; skip) | (go_at_call 71; (with_reducible refine (hcall _ _ _).mono ?_); rintro e w3 ⟨rfl, hb⟩; have HC3 := Aside0.mk (blk_below HC.out hb); have HR3 := Aside0.mk (blk_below HR.out hb); have HB3 := Aside0.mk (HB.out.trans (hb.mono HB.out.size)); clear hb HC HR HB cl15 fr15 cl16 fr16; have HC := HC3; have HR := HR3; have HB := HB3; clear HC3 HR3 HB3; have cl15 := (blk_cell HC.out 15).trans (show c.cells[15]? = some (.bool c.h2) from rfl); have fr15 := blk_frozen HC.out 15; have cl16 := (blk_cell HC.out 16).trans (show c.cells[16]? = some (.int .i64 c.n2) from rfl); have fr16 := blk_frozen HC.out 16; skip) | (refine wpList_load_row rfl 50 _ rfl w.heap.size rfl 50 _ (0, 0) _ (blk_set (blk_set HC.out _ _) _ _) hu31 rfl (rinfo.trans (by first | rfl | (simp only [Array.size_setIfInBounds]; rfl))) ?_) | ((with_reducible refine gate_store (t := 50) rfl ?_); refine wpList_store_row rfl 50 _ _ rfl (w.heap.size + 1) _ rfl rfl 50 Own.Ctl.zero.cells (blk_far (blk_far HR.out HNE.out _) HNE.out _) (rinfo.trans (by first | rfl | (simp only [Array.size_setIfInBounds]; rfl))) (by first | rfl | (simp only [Array.size_setIfInBounds]; rfl)) (by rw [ract_14 c n ok]; exact rone _) ?_))
  refine bodyPost_ret (results_cell_row rfl _ _ (w.heap.size + 1) 50 _ (0, 0) _ rfl (setRow_heap _ _ _ _ _ _ (blk_far (blk_far HR.out HNE.out _) HNE.out _)) hu31 rfl (rinfo.trans (by first | rfl | (simp only [Array.size_setIfInBounds]; rfl)))) rfl ?_
  exact ⟨by rw [ract_14 c n ok], rbelow_setRow ((HB.out.setCell (Nat.le_refl _) _).setCell (Nat.le_refl _) _) (Nat.le_succ _) _⟩
set_option maxHeartbeats 1000000 in
set_option maxRecDepth 100000 in
theorem sprref14_directive.w14f (c : Own.Ctl) (nm a : ByteArray) (n : Int) (ok : Bool) (w : World) (e0 : (nm.toList == [110, 111, 45, 115, 116, 111, 114, 101]) = false) (e1 : (nm.toList == [110, 111, 45, 99, 97, 99, 104, 101]) = false) (e2 : (nm.toList == [112, 114, 105, 118, 97, 116, 101]) = false) (e3 : (nm.toList == [112, 117, 98, 108, 105, 99]) = false) (e4 : (nm.toList == [109, 117, 115, 116, 45, 114, 101, 118, 97, 108, 105, 100, 97, 116, 101]) = false) (e5 : (nm.toList == [112, 114, 111, 120, 121, 45, 114, 101, 118, 97, 108, 105, 100, 97, 116, 101]) = false) (e6 : (nm.toList == [111, 110, 108, 121, 45, 105, 102, 45, 99, 97, 99, 104, 101, 100]) = false) (e7 : (nm.toList == [109, 117, 115, 116, 45, 117, 110, 100, 101, 114, 115, 116, 97, 110, 100]) = false) (e8 : (nm.toList == [105, 109, 109, 117, 116, 97, 98, 108, 101]) = false) (e9 : (nm.toList == [110, 111, 45, 116, 114, 97, 110, 115, 102, 111, 114, 109]) = false) (e10 : (nm.toList == [109, 97, 120, 45, 97, 103, 101]) = false) (e11 : (nm.toList == [115, 45, 109, 97, 120, 97, 103, 101]) = false) (e12 : (nm.toList == [115, 116, 97, 108, 101, 45, 105, 102, 45, 101, 114, 114, 111, 114]) = false) (e14 : (nm.toList == [109, 97, 120, 45, 115, 116, 97, 108, 101]) = true)
    (hsec : ∀ w, Calls Tryd.prog 70 #[.string a] w fun e w' => e = .returned (.tuple #[.int .i64 n, .bool ok]) ∧ Below w.heap.size w w') :
    Calls Tryd.prog 60 #[.agg c.cells, .string nm, .bool false, .string a] w fun e w' => e = .returned (.agg (c.act 14 false n ok).cells) ∧ Below w.heap.size w w' := by
  have hu31 := Tryd.underlying50
  have hu29 := Tryd.underlying48
  obtain ⟨wa, hwa⟩ : ∃ wa, wa = w.alloc (.cells c.cells 50) := ⟨_, rfl⟩
  obtain ⟨w1, hw1⟩ : ∃ w1, w1 = wa.alloc (.cells #[.bool false, .bool false, .bool false, .bool false, .bool false, .bool false, .bool false, .bool false, .bool false, .bool false, .bool false, .bool false, .int .i64 0, .bool false, .int .i64 0, .bool false, .int .i64 0, .bool false, .int .i64 0, .bool false, .int .i64 0] 50) := ⟨_, rfl⟩
  have hsa : wa.heap.size = w.heap.size + 1 := by rw [hwa, World.size_alloc]
  have hb1 : Below w.heap.size w w1 := by rw [hw1, hwa]; exact ((Below.refl _ w).alloc (Nat.le_refl _) _).alloc (by rw [World.size_alloc]; omega) _
  have hzC : w1.heap[w.heap.size]? = some (.cells c.cells 50 (0, 0)) := by rw [hw1, hwa]; exact blk_alloc (blk_new w _) _
  have hzR : w1.heap[w.heap.size + 1]? = some (.cells Own.Ctl.zero.cells 50 (0, 0)) := by rw [hw1, ← hsa]; exact blk_new wa _
  have HNE := Aside0.mk (show w.heap.size + 1 ≠ w.heap.size by omega)
  have HB1 := Aside0.mk hb1
  have HZC := Aside0.mk hzC
  have HZR := Aside0.mk hzR
  clear hb1 hzC hzR hsa
  go_enter Tryd.func60, Tryd.ntmps60
  go_wp2_with (first | (go_at_call 70; rw [← hwa, ← hw1]; (with_reducible refine (hsec _).mono ?_); rintro e w2 ⟨rfl, hb⟩; have HC := Aside0.mk (blk_below HZC.out hb); have HR := Aside0.mk (blk_below HZR.out hb); have HB := Aside0.mk (HB1.out.trans (hb.mono HB1.out.size)); clear hb HZC HZR HB1 hwa hw1; have cl10 := (blk_cell HC.out 10).trans (show c.cells[10]? = some (.bool c.b10) from rfl); have fr10 := blk_frozen HC.out 10; skip) | (refine wpList_load_row rfl 50 _ rfl w.heap.size rfl 50 _ (0, 0) _ (blk_set HC.out _ _) hu31 rfl (rinfo.trans (by first | rfl | (simp only [Array.size_setIfInBounds]; rfl))) ?_) | ((with_reducible refine gate_store (t := 50) rfl ?_); refine wpList_store_row rfl 50 _ _ rfl (w.heap.size + 1) _ rfl rfl 50 Own.Ctl.zero.cells (blk_far HR.out HNE.out _) (rinfo.trans (by first | rfl | (simp only [Array.size_setIfInBounds]; rfl))) (by first | rfl | (simp only [Array.size_setIfInBounds]; rfl)) (by rw [ract_14n c n ok]; exact rone _) ?_))
  refine bodyPost_ret (results_cell_row rfl _ _ (w.heap.size + 1) 50 _ (0, 0) _ rfl (setRow_heap _ _ _ _ _ _ (blk_far HR.out HNE.out _)) hu31 rfl (rinfo.trans (by first | rfl | (simp only [Array.size_setIfInBounds]; rfl)))) rfl ?_
  exact ⟨by rw [ract_14n c n ok], rbelow_setRow (HB.out.setCell (Nat.le_refl _) _) (Nat.le_succ _) _⟩
set_option maxHeartbeats 1000000 in
set_option maxRecDepth 100000 in
theorem sprref14_directive.w15 (c : Own.Ctl) (nm a : ByteArray) (has : Bool) (n : Int) (ok : Bool) (w : World) (e0 : (nm.toList == [110, 111, 45, 115, 116, 111, 114, 101]) = false) (e1 : (nm.toList == [110, 111, 45, 99, 97, 99, 104, 101]) = false) (e2 : (nm.toList == [112, 114, 105, 118, 97, 116, 101]) = false) (e3 : (nm.toList == [112, 117, 98, 108, 105, 99]) = false) (e4 : (nm.toList == [109, 117, 115, 116, 45, 114, 101, 118, 97, 108, 105, 100, 97, 116, 101]) = false) (e5 : (nm.toList == [112, 114, 111, 120, 121, 45, 114, 101, 118, 97, 108, 105, 100, 97, 116, 101]) = false) (e6 : (nm.toList == [111, 110, 108, 121, 45, 105, 102, 45, 99, 97, 99, 104, 101, 100]) = false) (e7 : (nm.toList == [109, 117, 115, 116, 45, 117, 110, 100, 101, 114, 115, 116, 97, 110, 100]) = false) (e8 : (nm.toList == [105, 109, 109, 117, 116, 97, 98, 108, 101]) = false) (e9 : (nm.toList == [110, 111, 45, 116, 114, 97, 110, 115, 102, 111, 114, 109]) = false) (e10 : (nm.toList == [109, 97, 120, 45, 97, 103, 101]) = false) (e11 : (nm.toList == [115, 45, 109, 97, 120, 97, 103, 101]) = false) (e12 : (nm.toList == [115, 116, 97, 108, 101, 45, 105, 102, 45, 101, 114, 114, 111, 114]) = false) (e14 : (nm.toList == [109, 97, 120, 45, 115, 116, 97, 108, 101]) = false) (e13 : (nm.toList == [109, 105, 110, 45, 102, 114, 101, 115, 104]) = false)
    (hsec : ∀ w, Calls Tryd.prog 70 #[.string a] w fun e w' => e = .returned (.tuple #[.int .i64 n, .bool ok]) ∧ Below w.heap.size w w') :
    Calls Tryd.prog 60 #[.agg c.cells, .string nm, .bool has, .string a] w fun e w' => e = .returned (.agg (c.act 15 has n ok).cells) ∧ Below w.heap.size w w' := by
  have hu31 := Tryd.underlying50
  have hu29 := Tryd.underlying48
  obtain ⟨wa, hwa⟩ : ∃ wa, wa = w.alloc (.cells c.cells 50) := ⟨_, rfl⟩
  obtain ⟨w1, hw1⟩ : ∃ w1, w1 = wa.alloc (.cells #[.bool false, .bool false, .bool false, .bool false, .bool false, .bool false, .bool false, .bool false, .bool false, .bool false, .bool false, .bool false, .int .i64 0, .bool false, .int .i64 0, .bool false, .int .i64 0, .bool false, .int .i64 0, .bool false, .int .i64 0] 50) := ⟨_, rfl⟩
  have hsa : wa.heap.size = w.heap.size + 1 := by rw [hwa, World.size_alloc]
  have hb1 : Below w.heap.size w w1 := by rw [hw1, hwa]; exact ((Below.refl _ w).alloc (Nat.le_refl _) _).alloc (by rw [World.size_alloc]; omega) _
  have hzC : w1.heap[w.heap.size]? = some (.cells c.cells 50 (0, 0)) := by rw [hw1, hwa]; exact blk_alloc (blk_new w _) _
  have hzR : w1.heap[w.heap.size + 1]? = some (.cells Own.Ctl.zero.cells 50 (0, 0)) := by rw [hw1, ← hsa]; exact blk_new wa _
  have HNE := Aside0.mk (show w.heap.size + 1 ≠ w.heap.size by omega)
  have HB1 := Aside0.mk hb1
  have HZC := Aside0.mk hzC
  have HZR := Aside0.mk hzR
  clear hb1 hzC hzR hsa
  go_enter Tryd.func60, Tryd.ntmps60
  go_wp2_with (first | (go_at_call 70; rw [← hwa, ← hw1]; (with_reducible refine (hsec _).mono ?_); rintro e w2 ⟨rfl, hb⟩; have HC := Aside0.mk (blk_below HZC.out hb); have HR := Aside0.mk (blk_below HZR.out hb); have HB := Aside0.mk (HB1.out.trans (hb.mono HB1.out.size)); clear hb HZC HZR HB1 hwa hw1; skip) | (refine wpList_load_row rfl 50 _ rfl w.heap.size rfl 50 _ (0, 0) _ HC.out hu31 rfl (rinfo.trans (by first | rfl | (simp only [Array.size_setIfInBounds]; rfl))) ?_) | ((with_reducible refine gate_store (t := 50) rfl ?_); refine wpList_store_row rfl 50 _ _ rfl (w.heap.size + 1) _ rfl rfl 50 Own.Ctl.zero.cells HR.out (rinfo.trans (by first | rfl | (simp only [Array.size_setIfInBounds]; rfl))) (by first | rfl | (simp only [Array.size_setIfInBounds]; rfl)) (rone c) ?_))
  refine bodyPost_ret (results_cell_row rfl _ _ (w.heap.size + 1) 50 _ (0, 0) _ rfl (setRow_heap _ _ _ _ _ _ HR.out) hu31 rfl (rinfo.trans (by first | rfl | (simp only [Array.size_setIfInBounds]; rfl)))) rfl ?_
  exact ⟨by rw [ract_15 c has n ok], rbelow_setRow HB.out (Nat.le_succ _) _⟩
theorem sprref14_directive.own (c : Own.Ctl) (nm a : ByteArray) (has : Bool) (n : Int) (ok : Bool) (w : World)
    (hsec : ∀ w, Calls Tryd.prog 70 #[.string a] w fun e w' => e = .returned (.tuple #[.int .i64 n, .bool ok]) ∧ Below w.heap.size w w') :
    Calls Tryd.prog 60 #[.agg c.cells, .string nm, .bool has, .string a] w fun e w' => e = .returned (.agg (c.act (Own.kindOf nm) has n ok).cells) ∧ Below w.heap.size w w' := by
  by_cases e0 : (nm.toList == [110, 111, 45, 115, 116, 111, 114, 101]) = true
  · have hk : Own.kindOf nm = 0 := by unfold Own.kindOf; rw [beq_iff_eq.1 e0]; rfl
    rw [hk]
    exact sprref14_directive.w0 c nm a has n ok w  e0 hsec
  have f0 := Bool.eq_false_iff.2 e0
  by_cases e1 : (nm.toList == [110, 111, 45, 99, 97, 99, 104, 101]) = true
  · have hk : Own.kindOf nm = 1 := by unfold Own.kindOf; rw [beq_iff_eq.1 e1]; rfl
    rw [hk]
    exact sprref14_directive.w1 c nm a has n ok w f0 e1 hsec
  have f1 := Bool.eq_false_iff.2 e1
  by_cases e2 : (nm.toList == [112, 114, 105, 118, 97, 116, 101]) = true
  · have hk : Own.kindOf nm = 2 := by unfold Own.kindOf; rw [beq_iff_eq.1 e2]; rfl
    rw [hk]
    exact sprref14_directive.w2 c nm a has n ok w f0 f1 e2 hsec
  have f2 := Bool.eq_false_iff.2 e2
  by_cases e3 : (nm.toList == [112, 117, 98, 108, 105, 99]) = true
  · have hk : Own.kindOf nm = 3 := by unfold Own.kindOf; rw [beq_iff_eq.1 e3]; rfl
    rw [hk]
    exact sprref14_directive.w3 c nm a has n ok w f0 f1 f2 e3 hsec
  have f3 := Bool.eq_false_iff.2 e3
  by_cases e4 : (nm.toList == [109, 117, 115, 116, 45, 114, 101, 118, 97, 108, 105, 100, 97, 116, 101]) = true
  · have hk : Own.kindOf nm = 4 := by unfold Own.kindOf; rw [beq_iff_eq.1 e4]; rfl
    rw [hk]
    exact sprref14_directive.w4 c nm a has n ok w f0 f1 f2 f3 e4 hsec
  have f4 := Bool.eq_false_iff.2 e4
  by_cases e5 : (nm.toList == [112, 114, 111, 120, 121, 45, 114, 101, 118, 97, 108, 105, 100, 97, 116, 101]) = true
  · have hk : Own.kindOf nm = 5 := by unfold Own.kindOf; rw [beq_iff_eq.1 e5]; rfl
    rw [hk]
    exact sprref14_directive.w5 c nm a has n ok w f0 f1 f2 f3 f4 e5 hsec
  have f5 := Bool.eq_false_iff.2 e5
  by_cases e6 : (nm.toList == [111, 110, 108, 121, 45, 105, 102, 45, 99, 97, 99, 104, 101, 100]) = true
  · have hk : Own.kindOf nm = 6 := by unfold Own.kindOf; rw [beq_iff_eq.1 e6]; rfl
    rw [hk]
    exact sprref14_directive.w6 c nm a has n ok w f0 f1 f2 f3 f4 f5 e6 hsec
  have f6 := Bool.eq_false_iff.2 e6
  by_cases e7 : (nm.toList == [109, 117, 115, 116, 45, 117, 110, 100, 101, 114, 115, 116, 97, 110, 100]) = true
  · have hk : Own.kindOf nm = 7 := by unfold Own.kindOf; rw [beq_iff_eq.1 e7]; rfl
    rw [hk]
    exact sprref14_directive.w7 c nm a has n ok w f0 f1 f2 f3 f4 f5 f6 e7 hsec
  have f7 := Bool.eq_false_iff.2 e7
  by_cases e8 : (nm.toList == [105, 109, 109, 117, 116, 97, 98, 108, 101]) = true
  · have hk : Own.kindOf nm = 8 := by unfold Own.kindOf; rw [beq_iff_eq.1 e8]; rfl
    rw [hk]
    exact sprref14_directive.w8 c nm a has n ok w f0 f1 f2 f3 f4 f5 f6 f7 e8 hsec
  have f8 := Bool.eq_false_iff.2 e8
  by_cases e9 : (nm.toList == [110, 111, 45, 116, 114, 97, 110, 115, 102, 111, 114, 109]) = true
  · have hk : Own.kindOf nm = 9 := by unfold Own.kindOf; rw [beq_iff_eq.1 e9]; rfl
    rw [hk]
    exact sprref14_directive.w9 c nm a has n ok w f0 f1 f2 f3 f4 f5 f6 f7 f8 e9 hsec
  have f9 := Bool.eq_false_iff.2 e9
  by_cases e10 : (nm.toList == [109, 97, 120, 45, 97, 103, 101]) = true
  · have hk : Own.kindOf nm = 10 := by unfold Own.kindOf; rw [beq_iff_eq.1 e10]; rfl
    rw [hk]
    exact sprref14_directive.w10 c nm a has n ok w f0 f1 f2 f3 f4 f5 f6 f7 f8 f9 e10 hsec
  have f10 := Bool.eq_false_iff.2 e10
  by_cases e11 : (nm.toList == [115, 45, 109, 97, 120, 97, 103, 101]) = true
  · have hk : Own.kindOf nm = 11 := by unfold Own.kindOf; rw [beq_iff_eq.1 e11]; rfl
    rw [hk]
    exact sprref14_directive.w11 c nm a has n ok w f0 f1 f2 f3 f4 f5 f6 f7 f8 f9 f10 e11 hsec
  have f11 := Bool.eq_false_iff.2 e11
  by_cases e12 : (nm.toList == [115, 116, 97, 108, 101, 45, 105, 102, 45, 101, 114, 114, 111, 114]) = true
  · have hk : Own.kindOf nm = 12 := by unfold Own.kindOf; rw [beq_iff_eq.1 e12]; rfl
    rw [hk]
    exact sprref14_directive.w12 c nm a has n ok w f0 f1 f2 f3 f4 f5 f6 f7 f8 f9 f10 f11 e12 hsec
  have f12 := Bool.eq_false_iff.2 e12
  by_cases e14 : (nm.toList == [109, 97, 120, 45, 115, 116, 97, 108, 101]) = true
  · have hk : Own.kindOf nm = 14 := by unfold Own.kindOf; rw [beq_iff_eq.1 e14]; rfl
    rw [hk]
    cases has with
    | true => exact sprref14_directive.w14t c nm a n ok w f0 f1 f2 f3 f4 f5 f6 f7 f8 f9 f10 f11 f12 e14 hsec
    | false => exact sprref14_directive.w14f c nm a n ok w f0 f1 f2 f3 f4 f5 f6 f7 f8 f9 f10 f11 f12 e14 hsec
  have f14 := Bool.eq_false_iff.2 e14
  by_cases e13 : (nm.toList == [109, 105, 110, 45, 102, 114, 101, 115, 104]) = true
  · have hk : Own.kindOf nm = 13 := by unfold Own.kindOf; rw [beq_iff_eq.1 e13]; rfl
    rw [hk]
    cases ok with
    | true => exact sprref14_directive.w13t c nm a has n w f0 f1 f2 f3 f4 f5 f6 f7 f8 f9 f10 f11 f12 f14 e13 hsec
    | false => exact sprref14_directive.w13f c nm a has n w f0 f1 f2 f3 f4 f5 f6 f7 f8 f9 f10 f11 f12 f14 e13 hsec
  have f13 := Bool.eq_false_iff.2 e13
  have hk : Own.kindOf nm = 15 := by unfold Own.kindOf; simp only [f0, f1, f2, f3, f4, f5, f6, f7, f8, f9, f10, f11, f12, f14, f13, Bool.false_eq_true, if_false]
  rw [hk]
  exact sprref14_directive.w15 c nm a has n ok w f0 f1 f2 f3 f4 f5 f6 f7 f8 f9 f10 f11 f12 f14 f13 hsec
def unqB (a : ByteArray) : ByteArray := if 2 ≤ a.size then (if bt a 0 = 34 then (if bt a ((a.size : Int) - 1) = 34 then a.extract 1 (a.size - 1) else a) else a) else a
def sprref14_Parse.tail (k : Nat) (c : Own.Ctl) (name : ByteArray) (has : Bool) (arg : ByteArray) : Option Own.Ctl :=
  (sprref12_Trim.f k name).bind fun u => (sprref12_Lower.f u).bind fun nm => (sprref14_Seconds.f k (unqB arg)).bind fun s => some (c.act (Own.kindOf nm) has s.1 s.2)
def sprref14_Parse.named (k : Nat) (c : Own.Ctl) (p name : ByteArray) : Option Own.Ctl :=
  if name.size < p.size then (if p.size ≤ 9223372036854775806 then (sprref12_Trim.f k (p.extract (name.size + 1) p.size)).bind fun arg => (if arg.size ≤ 9223372036854775806 then sprref14_Parse.tail k c name true arg else none) else none)
  else sprref14_Parse.tail k c name false ⟨#[]⟩
def sprref14_Parse.step (k : Nat) (c : Own.Ctl) (p : ByteArray) : Option Own.Ctl :=
  (sprref_Split.f k p 61).bind fun l => match l with | [] => none | name :: _ => sprref14_Parse.named k c p name
def sprref14_Parse.steps (k : Nat) : List ByteArray → Own.Ctl → Option Own.Ctl
  | [], c => some c
  | p :: t, c => (sprref14_Parse.step k c p).bind fun c' => sprref14_Parse.steps k t c'
structure RpSt (w w2 : World) (B : Nat) (c : Own.Ctl) (W : World) : Prop where
  at_ : W.heap[B]? = some (.cells c.cells 50 (0, 0))
  below : Below w.heap.size w W
  keep : KeepBut w2 W B none
theorem RpSt.next {w w2 : World} {B : Nat} {c : Own.Ctl} {W W' : World} (h : RpSt w w2 B c W) (hb : Below W.heap.size W W') : RpSt w w2 B c W' :=
  ⟨blk_below h.at_ hb, h.below.trans (hb.mono h.below.size), h.keep.trans (KeepBut.of_below hb B none) (.inl rfl)⟩
theorem RpSt.put {w w2 : World} {B : Nat} {c : Own.Ctl} {W : World} (h : RpSt w w2 B c W) (hB : w.heap.size ≤ B) (c' : Own.Ctl) : RpSt w w2 B c' (W.setRow B c'.cells) :=
  ⟨setRow_heap _ _ _ _ _ _ h.at_, rbelow_setRow h.below hB _, ⟨by rw [setRow_size]; exact h.keep.1, fun i hi hg hr => (setRow_other _ _ _ _ hg).trans (h.keep.2 i hi hg hr)⟩⟩
theorem RpSt.at_str {w w2 : World} {B : Nat} {c : Own.Ctl} {W : World} (h : RpSt w w2 B c W) (hB : w2.heap.size ≤ B) {ad : Addr} {v : Value} (hx : w2.cell? ad = some v) : W.cell? ad = some v := by
  have hl := World.block_lt_of_cell? w2 _ hx
  have := h.keep.2 ad.block hl (by omega) (by simp)
  rw [← hx]; unfold World.cell?; rw [this]
theorem rp_load {P : Program} {ops : Array Oper} {op : Oper} {a : Act} (hw : Region.wanted op (yielded ops a.tmps) = true) (ty : TypeId) (x : Operand) (ho : op.op = .load ty x)
    (b : Nat) (hx : a.eval x = .pointer (some ⟨b, 0, none⟩)) (cs : Array Value) (t : TypeId) (fr : Nat × Nat) (d : TypeDesc) (hu : P.underlying ty = some d) (hd : (match d with | .struct _ | .array _ _ => true | _ => false) = true) (hi : (P.info? ty).map (·.size) = some cs.size) :
    YieldsIf P ops (fun w => w.heap[b]? = some (.cells cs t fr)) op (.agg cs) a :=
  .inl ⟨hw, fun w hw' => by
    unfold execOp
    simp only [ho, hx, Instr.loadAt, Instr.sureAddr, Sem.run_bind, Sem.run_pure, Result.andThen_ok, run_loadVar_row w b t ty cs fr d hw' hu hd hi]⟩
theorem rp_store {P : Program} (e : Operand → Value) (o : Oper) (w W : World) (g : Nat) (ty : TypeId) (x y : Operand) (cells : Array Value) (ho : o.op = .store ty x y) (hx : e x = .pointer (some ⟨g, 0, none⟩)) (hy : e y = .agg cells) (hrow : (storeVar ty ⟨g, 0, none⟩ (.agg cells)).run P w = .ok () W) :
    (execOp e o).run P w = .ok .skip W := by
  unfold execOp
  simp only [ho, hx, hy, Instr.storeAt, Instr.sureAddr, Sem.run_bind, Sem.run_pure, Result.andThen_ok, hrow]
set_option maxHeartbeats 1000000 in
set_option maxRecDepth 100000 in
theorem sprref14_Parse.own (k : Nat) (A : Option Addr) (c0 : Nat) (l ps : List ByteArray) (r : Own.Ctl) (w : World) (hr0 : Kd.C Kd.string w A l.length l) (hc0 : l.length ≤ c0) (hS : sprref12_Split.f k l = some ps) (hF : sprref14_Parse.steps k ps Own.Ctl.zero = some r) :
    Calls Tryd.prog 46 #[.slice A l.length c0] w fun e w' => e = .returned (.agg r.fin.cells) ∧ Below w.heap.size w w' := by
  have hu35 := Tryd.underlying50
  obtain ⟨wa, hwa⟩ : ∃ wa, wa = w.alloc (.cells #[.bool false, .bool false, .bool false, .bool false, .bool false, .bool false, .bool false, .bool false, .bool false, .bool false, .bool false, .bool false, .int .i64 0, .bool false, .int .i64 0, .bool false, .int .i64 0, .bool false, .int .i64 0, .bool false, .int .i64 0] 50) := ⟨_, rfl⟩
  have hba : Below w.heap.size w wa := by rw [hwa]; exact (Below.refl _ w).alloc (Nat.le_refl _) _
  have hsa : wa.heap.size = w.heap.size + 1 := by rw [hwa, World.size_alloc]
  have hza : wa.heap[w.heap.size]? = some (.cells Own.Ctl.zero.cells 50 (0, 0)) := by rw [hwa]; exact blk_new w _
  have hsp := sprref12_Split.calls k A c0 l ps wa (Kd.C_below hr0 hba) hc0 hS
  have HB1 := Aside0.mk hba
  have HS1 := Aside0.mk hsa
  have HZ0 := Aside0.mk hza
  have HF := Aside0.mk hF
  clear hba hsa hza hr0 hS hF
  go_enter Tryd.func46, Tryd.ntmps46
  go_wp2_with (first | (go_at_call 43; rw [← hwa]; (with_reducible refine hsp.mono ?_); rintro e w2 ⟨v, rfl, hR, hB2⟩; obtain ⟨A2, c2, rfl, hc2, hC2⟩ := Kd.R_reads hR; have HB2 := Aside0.mk (HB1.out.trans (hB2.mono (by have := HS1.out; omega))); have HZ2 := Aside0.mk (blk_below HZ0.out hB2); have HC2 := Aside0.mk hC2; clear hB2 hC2 hR hsp hwa HB1 HZ0 HS1) | ((with_reducible refine gate_store (t := 50) (p := 4) rfl ?_); (refine wpList_store_row rfl 50 _ _ rfl w2.heap.size Own.Ctl.zero.cells rfl rfl 50 Own.Ctl.zero.cells (blk_new w2 _) (by kernel_rfl) rfl (rone _) ?_); (obtain ⟨w3, hw3⟩ : ∃ w3, w3 = (w2.alloc (.cells #[.bool false, .bool false, .bool false, .bool false, .bool false, .bool false, .bool false, .bool false, .bool false, .bool false, .bool false, .bool false, .int .i64 0, .bool false, .int .i64 0, .bool false, .int .i64 0, .bool false, .int .i64 0, .bool false, .int .i64 0] 50)).setRow w2.heap.size Own.Ctl.zero.cells := ⟨_, rfl⟩; have S3 : Aside0 (RpSt w w2 w2.heap.size Own.Ctl.zero w3) := ⟨by rw [hw3]; exact ⟨setRow_heap _ _ _ _ _ _ (blk_new w2 _), rbelow_setRow (HB2.out.alloc HB2.out.size _) HB2.out.size _, ⟨by rw [setRow_size, World.size_alloc]; omega, fun i hi hg _ => (setRow_other _ _ _ _ hg).trans (heap_alloc_old _ _ hi)⟩⟩⟩); (rw [← hw3]); clear hw3))
  have hlen : ps.length ≤ 9223372036854775807 := HC2.out.2.1
  go_loopg [5] ps.length (fun gg i wr => ∃ n : Nat, i = .int .i64 n ∧ n ≤ ps.length ∧ ps.length - n ≤ gg ∧ ∃ c : Own.Ctl, Aside0 (sprref14_Parse.steps k (ps.drop n) c = some r) ∧ Aside0 (RpSt w w2 w2.heap.size c wr))
  case atStart => exact ⟨0, rfl, by omega, by omega, _, ⟨HF.out⟩, S3⟩
  case round =>
    obtain ⟨n, rfl, hn, hgg, c, hst, hS0⟩ := hrel
    by_cases hlt : n < ps.length
    · have hx : ps[n]? = some ps[n] := List.getElem?_eq_getElem hlt
      have q1 : decide ((n : Int) < (ps.length : Int)) = true := decide_eq_true (by omega)
      obtain ⟨ad, rfl, hx0⟩ := cc_at_str HC2.out n _ hx
      have HX := Aside0.mk hx0
      replace hx0 := hS0.out.at_str (Nat.le_refl _) hx0
      have p5 := eq_true (show (0 : Int) ≤ (n : Int) by omega)
      have q5 := eq_true (show (n : Int) < (ps.length : Int) by omega)
      have hd : ps.drop n = ps[n] :: ps.drop (n + 1) := List.drop_eq_getElem_cons hlt
      have hst' := hst.out
      rw [hd] at hst'
      clear hd hx hst
      generalize ps[n] = x at *
      obtain ⟨c', hc1, hc2⟩ := Option.bind_eq_some_iff.1 (show (sprref14_Parse.step k c x).bind (fun c' => sprref14_Parse.steps k (ps.drop (n + 1)) c') = some r from hst')
      clear hst'
      have HN := Aside0.mk hc2
      clear hc2
      unfold sprref14_Parse.step at hc1
      obtain ⟨L, e1, hc1⟩ := Option.bind_eq_some_iff.1 hc1
      cases L with
      | nil => cases hc1
      | cons name L =>
      replace hc1 : sprref14_Parse.named k c x name = some c' := hc1
      have k1 : ∀ W, Calls Tryd.prog 58 #[.string x, .int .u8 61] W fun e w' => ∃ ad m cc, e = .returned (.slice (some ad) m cc) ∧ 0 < m ∧ w'.cell? ad = some (.string name) ∧ Below W.heap.size W w' := fun W => (sprref_Split.calls k x 61 (name :: L) W e1).mono (by
        rintro e w' ⟨v, rfl, hR, hb⟩
        obtain ⟨A3, c3, rfl, hc3, hC3⟩ := Kd.R_reads hR
        obtain ⟨ad3, rfl, h3⟩ := cc_at_str hC3 0 name rfl
        exact ⟨ad3, _, c3, rfl, by simp, by rw [← h3]; first | rfl | (congr 1; done) | (congr 1; unfold Addr.add; split <;> simp_all), hb⟩)
      clear e1
      unfold sprref14_Parse.named at hc1
      by_cases hh : name.size < x.size
      · rw [if_pos hh] at hc1
        by_cases hxs : x.size ≤ 9223372036854775806
        · rw [if_pos hxs] at hc1
          obtain ⟨arg, e2, hc1⟩ := Option.bind_eq_some_iff.1 hc1
          by_cases has : arg.size ≤ 9223372036854775806
          · rw [if_pos has] at hc1
            unfold sprref14_Parse.tail at hc1
            obtain ⟨u, e3, hc1⟩ := Option.bind_eq_some_iff.1 hc1
            obtain ⟨nmL, e4, hc1⟩ := Option.bind_eq_some_iff.1 hc1
            obtain ⟨⟨s1, s2⟩, e5, hc1⟩ := Option.bind_eq_some_iff.1 hc1
            have hc1 := Option.some.inj hc1
            have k2 := fun W => sprref12_Trim.calls k _ arg W e2
            have k3 := fun W => sprref12_Trim.calls k _ u W e3
            have k4 := fun W => sprref12_Lower.calls u nmL W e4
            replace e5 : sprref14_Seconds.f k (unqB arg) = some (s1, s2) := e5
            clear e2 e3 e4
            have hb1 : decide ((name.size : Int) < (x.size : Int)) = true := decide_eq_true (by omega)
            have hb2 : decide (name.size < x.size) = true := decide_eq_true (by omega)
            have hw1 : IntKind.i64.wrap ((name.size : Int) + 1) = (name.size : Int) + 1 := by rw [i64_w]; unfold wrap64; omega
            have hw2 : (name.size : Int) + 1 ≤ (x.size : Int) := by omega
            have hw3 : (0 : Int) ≤ (name.size : Int) + 1 := by omega
            have hw4 : ((name.size : Int) + 1).toNat = name.size + 1 := by omega
            by_cases c2 : 2 ≤ arg.size
            · obtain ⟨ji, hji⟩ : ∃ j : Int, (arg.size : Int) - 1 = j := ⟨_, rfl⟩
              have hjw : IntKind.i64.wrap ((arg.size : Int) - 1) = ji := by rw [← hji, i64_w]; unfold wrap64; omega
              have c2b0 : decide (2 ≤ (arg.size : Int)) = true := decide_eq_true (by omega)
              have c2b1 : decide (2 ≤ arg.size) = true := decide_eq_true (by omega)
              have q4 := eq_true (show 0 < arg.size by omega)
              have hx4 : ∀ h : 0 < arg.size, ((arg[0]'h).toNat : Int) = bt arg 0 := bt_at arg 0
              have qi4 : (0 < (arg.size : Int)) = True := eq_true (by omega)
              by_cases c5 : (bt arg 0) = 34
              · have c5b0 : ((bt arg 0) == 34) = true := beq_iff_eq.mpr c5
                have c5b1 : ((bt arg 0) != 34) = false := bne_eq_false_iff_eq.mpr c5
                have p9 := eq_true (show 0 ≤ ji by omega)
                have q9 := eq_true (show ji < (arg.size : Int) by omega)
                have hx9 := bt_at arg ji
                by_cases c10 : (bt arg ji) = 34
                · have c10b0 : ((bt arg ji) == 34) = true := beq_iff_eq.mpr c10
                  have c10b1 : ((bt arg ji) != 34) = false := bne_eq_false_iff_eq.mpr c10
                  have p11 := eq_true (show 1 ≤ ji by omega)
                  have p12 := eq_true (show ji ≤ (arg.size : Int) by omega)
                  have hu : unqB arg = arg.extract 1 ji.toNat := by unfold unqB; rw [if_pos c2, if_pos c5, hji, if_pos c10, show arg.size - 1 = ji.toNat by omega]
                  have k5 : ∀ W, Calls Tryd.prog 60 #[.agg c.cells, .string nmL, .bool true, .string (arg.extract 1 ji.toNat)] W fun e w' => e = .returned (.agg c'.cells) ∧ Below W.heap.size W w' := by
                    intro W
                    have := sprref14_directive.own c nmL (unqB arg) true s1 s2 W (fun W => sprref14_Seconds.calls k _ s1 s2 W e5)
                    rw [hc1, hu] at this
                    exact this
                  clear hu e5 hc1 hji
                  clear hh hxs has c2 c5 c10
                  go_wp2_with (first | (go_at_call 58; (with_reducible refine (k1 _).mono ?_); rintro e w5 ⟨ad3, m3, c3, rfl, hm3, hn3, hb⟩; have SA0 := Aside0.mk (hS0.out.next hb); have hx1 := SA0.out.at_str (Nat.le_refl _) (show w2.cell? (ad.add n) = _ from HX.out); clear hb k1) | (go_at_call 59; (with_reducible refine (k2 _).mono ?_); rintro e w6 ⟨rfl, hb⟩; have SA := Aside0.mk (SA0.out.next hb.below); obtain ⟨nd6, rfl⟩ := hb; clear k2))
                  refine start_ (n := 8) (S := fun w' => w'.heap[w2.heap.size]? = some (.cells c.cells 50 (0, 0))) (ds := [7]) #[false, false, false, false, false, false, false, false] (by kernel_rfl) rfl rfl (blk_drew SA.out.at_) (fun hHeld => ?_)
                  have SB := Aside0.mk (SA.out.next (below_drew1 (Below.refl _ _)))
                  generalize World.drew _ = wd at SB hHeld ⊢
                  refine take_ (i := 0) (N := some 64) (v := .agg c.cells) #[true, false, false, false, false, false, false, false] rfl rfl (by kernel_rfl) (fun _ _ _ h => h) (rp_load (by rfl) 50 (.tmp 4) rfl w2.heap.size rfl c.cells 50 (0, 0) _ hu35 rfl (rinfo.trans (rsize c))) hHeld rfl ?_
                  simp only [Act.put, List.setIfInBounds_toArray, List.set_cons_zero, List.set_cons_succ]
                  refine pure_ (i := 1) (N := some 65) (v := .string name) #[true, true, false, false, false, false, false, false] rfl rfl (by kernel_rfl) (fun _ _ _ h => h) (Or.inl ⟨by rfl, by intro w'; rfl⟩) rfl ?_
                  simp only [Act.put, List.setIfInBounds_toArray, List.set_cons_zero, List.set_cons_succ]
                  refine pure_ (i := 4) (N := some 68) (v := .bool true) #[true, true, false, false, true, false, false, false] rfl rfl (by kernel_rfl) (fun _ _ _ h => h) (Or.inl ⟨by rfl, by intro w'; rfl⟩) rfl ?_
                  simp only [Act.put, List.setIfInBounds_toArray, List.set_cons_zero, List.set_cons_succ]
                  refine pure_ (i := 5) (N := some 69) (v := .string (arg.extract 1 ji.toNat)) #[true, true, false, false, true, true, false, false] rfl rfl (by kernel_rfl) (fun _ _ _ h => h) (Or.inl ⟨by rfl, by intro w'; rfl⟩) rfl ?_
                  simp only [Act.put, List.setIfInBounds_toArray, List.set_cons_zero, List.set_cons_succ]
                  refine one_ (i := 2) (N := some 66) #[true, true, true, false, true, true, false, false] rfl rfl (by kernel_rfl) (by decide) (fun K hK => ?_)
                  refine goes_ Tryd.func59 (by kernel_rfl) rfl #[.string name] (by rfl) rfl rfl (by first | rfl | (simp only [List.map_toArray, List.map_cons, List.map_nil]; rfl)) ?_
                  with_reducible refine (k3 _).mono ?_
                  rintro e wt ⟨rfl, hb⟩
                  have SC := Aside0.mk (SB.out.next hb.below)
                  clear hb hHeld
                  refine ⟨_, rfl, ?_⟩
                  refine hK.out _ _ SC.out.at_ (fun hHeld => ?_)
                  clear hK K
                  simp only [Act.put, List.setIfInBounds_toArray, List.set_cons_zero, List.set_cons_succ]
                  refine one_ (i := 3) (N := some 67) #[true, true, true, true, true, true, false, false] rfl rfl (by kernel_rfl) (by decide) (fun K hK => ?_)
                  refine goes_ Tryd.func45 (by kernel_rfl) rfl #[.string u] (by rfl) rfl rfl (by first | rfl | (simp only [List.map_toArray, List.map_cons, List.map_nil]; rfl)) ?_
                  with_reducible refine (k4 _).mono ?_
                  rintro e wl ⟨rfl, hb⟩
                  have SD := Aside0.mk (SC.out.next hb)
                  clear hb hHeld
                  refine ⟨_, rfl, ?_⟩
                  refine hK.out _ _ SD.out.at_ (fun hHeld => ?_)
                  clear hK K
                  simp only [Act.put, List.setIfInBounds_toArray, List.set_cons_zero, List.set_cons_succ]
                  refine one_ (i := 6) (N := some 70) #[true, true, true, true, true, true, true, false] rfl rfl (by kernel_rfl) (by decide) (fun K hK => ?_)
                  refine goes_ Tryd.func60 (by kernel_rfl) rfl #[.agg c.cells, .string nmL, .bool true, .string (arg.extract 1 ji.toNat)] (by rfl) rfl rfl (by first | rfl | (simp only [List.map_toArray, List.map_cons, List.map_nil]; rfl)) ?_
                  with_reducible refine (k5 _).mono ?_
                  rintro e wc ⟨rfl, hb⟩
                  have SE := Aside0.mk (SD.out.next hb)
                  clear hb hHeld
                  refine ⟨_, rfl, ?_⟩
                  refine hK.out _ _ SE.out.at_ (fun hHeld => ?_)
                  clear hK K
                  simp only [Act.put, List.setIfInBounds_toArray, List.set_cons_zero, List.set_cons_succ]
                  refine last_ (i := 7) (N := none) #[true, true, true, true, true, true, true, true] rfl rfl (by kernel_rfl) (by decide) (fun K hK => ?_)
                  refine skip_ (w1 := World.setRow wc w2.heap.size c'.cells) (by rfl) rfl (rp_store _ _ _ _ w2.heap.size 50 (.tmp 4) (.tmp 70) c'.cells rfl rfl rfl (run_storeVar_row (P := Tryd.prog) wc w2.heap.size 50 50 _ c'.cells SE.out.at_ (rinfo.trans (rsize c')) rfl (rone c'))) ?_
                  have SF := Aside0.mk (SE.out.put (by have := HB2.out.size; omega) c')
                  refine hK.out _ _ ?_
                  clear hK K
                  refine done_ (by kernel_rfl) ?_
                  generalize World.setRow wc w2.heap.size c'.cells = wz at SF ⊢
                  go_wp2
                  go_roundg (ps.length - (n + 1))
                  case measure => omega
                  case rel => exact ⟨n + 1, rfl, by omega, by omega, c', HN, SF⟩
                · have c10b0 : ((bt arg ji) == 34) = false := beq_eq_false_iff_ne.mpr c10
                  have c10b1 : ((bt arg ji) != 34) = true := bne_iff_ne.mpr c10
                  have hu : unqB arg = arg := by unfold unqB; rw [if_pos c2, if_pos c5, hji, if_neg c10]
                  have k5 : ∀ W, Calls Tryd.prog 60 #[.agg c.cells, .string nmL, .bool true, .string (arg)] W fun e w' => e = .returned (.agg c'.cells) ∧ Below W.heap.size W w' := by
                    intro W
                    have := sprref14_directive.own c nmL (unqB arg) true s1 s2 W (fun W => sprref14_Seconds.calls k _ s1 s2 W e5)
                    rw [hc1, hu] at this
                    exact this
                  clear hu e5 hc1 hji
                  clear hh hxs has c2 c5 c10
                  go_wp2_with (first | (go_at_call 58; (with_reducible refine (k1 _).mono ?_); rintro e w5 ⟨ad3, m3, c3, rfl, hm3, hn3, hb⟩; have SA0 := Aside0.mk (hS0.out.next hb); have hx1 := SA0.out.at_str (Nat.le_refl _) (show w2.cell? (ad.add n) = _ from HX.out); clear hb k1) | (go_at_call 59; (with_reducible refine (k2 _).mono ?_); rintro e w6 ⟨rfl, hb⟩; have SA := Aside0.mk (SA0.out.next hb.below); obtain ⟨nd6, rfl⟩ := hb; clear k2))
                  refine start_ (n := 8) (S := fun w' => w'.heap[w2.heap.size]? = some (.cells c.cells 50 (0, 0))) (ds := [7]) #[false, false, false, false, false, false, false, false] (by kernel_rfl) rfl rfl (blk_drew SA.out.at_) (fun hHeld => ?_)
                  have SB := Aside0.mk (SA.out.next (below_drew1 (Below.refl _ _)))
                  generalize World.drew _ = wd at SB hHeld ⊢
                  refine take_ (i := 0) (N := some 64) (v := .agg c.cells) #[true, false, false, false, false, false, false, false] rfl rfl (by kernel_rfl) (fun _ _ _ h => h) (rp_load (by rfl) 50 (.tmp 4) rfl w2.heap.size rfl c.cells 50 (0, 0) _ hu35 rfl (rinfo.trans (rsize c))) hHeld rfl ?_
                  simp only [Act.put, List.setIfInBounds_toArray, List.set_cons_zero, List.set_cons_succ]
                  refine pure_ (i := 1) (N := some 65) (v := .string name) #[true, true, false, false, false, false, false, false] rfl rfl (by kernel_rfl) (fun _ _ _ h => h) (Or.inl ⟨by rfl, by intro w'; rfl⟩) rfl ?_
                  simp only [Act.put, List.setIfInBounds_toArray, List.set_cons_zero, List.set_cons_succ]
                  refine pure_ (i := 4) (N := some 68) (v := .bool true) #[true, true, false, false, true, false, false, false] rfl rfl (by kernel_rfl) (fun _ _ _ h => h) (Or.inl ⟨by rfl, by intro w'; rfl⟩) rfl ?_
                  simp only [Act.put, List.setIfInBounds_toArray, List.set_cons_zero, List.set_cons_succ]
                  refine pure_ (i := 5) (N := some 69) (v := .string (arg)) #[true, true, false, false, true, true, false, false] rfl rfl (by kernel_rfl) (fun _ _ _ h => h) (Or.inl ⟨by rfl, by intro w'; rfl⟩) rfl ?_
                  simp only [Act.put, List.setIfInBounds_toArray, List.set_cons_zero, List.set_cons_succ]
                  refine one_ (i := 2) (N := some 66) #[true, true, true, false, true, true, false, false] rfl rfl (by kernel_rfl) (by decide) (fun K hK => ?_)
                  refine goes_ Tryd.func59 (by kernel_rfl) rfl #[.string name] (by rfl) rfl rfl (by first | rfl | (simp only [List.map_toArray, List.map_cons, List.map_nil]; rfl)) ?_
                  with_reducible refine (k3 _).mono ?_
                  rintro e wt ⟨rfl, hb⟩
                  have SC := Aside0.mk (SB.out.next hb.below)
                  clear hb hHeld
                  refine ⟨_, rfl, ?_⟩
                  refine hK.out _ _ SC.out.at_ (fun hHeld => ?_)
                  clear hK K
                  simp only [Act.put, List.setIfInBounds_toArray, List.set_cons_zero, List.set_cons_succ]
                  refine one_ (i := 3) (N := some 67) #[true, true, true, true, true, true, false, false] rfl rfl (by kernel_rfl) (by decide) (fun K hK => ?_)
                  refine goes_ Tryd.func45 (by kernel_rfl) rfl #[.string u] (by rfl) rfl rfl (by first | rfl | (simp only [List.map_toArray, List.map_cons, List.map_nil]; rfl)) ?_
                  with_reducible refine (k4 _).mono ?_
                  rintro e wl ⟨rfl, hb⟩
                  have SD := Aside0.mk (SC.out.next hb)
                  clear hb hHeld
                  refine ⟨_, rfl, ?_⟩
                  refine hK.out _ _ SD.out.at_ (fun hHeld => ?_)
                  clear hK K
                  simp only [Act.put, List.setIfInBounds_toArray, List.set_cons_zero, List.set_cons_succ]
                  refine one_ (i := 6) (N := some 70) #[true, true, true, true, true, true, true, false] rfl rfl (by kernel_rfl) (by decide) (fun K hK => ?_)
                  refine goes_ Tryd.func60 (by kernel_rfl) rfl #[.agg c.cells, .string nmL, .bool true, .string (arg)] (by rfl) rfl rfl (by first | rfl | (simp only [List.map_toArray, List.map_cons, List.map_nil]; rfl)) ?_
                  with_reducible refine (k5 _).mono ?_
                  rintro e wc ⟨rfl, hb⟩
                  have SE := Aside0.mk (SD.out.next hb)
                  clear hb hHeld
                  refine ⟨_, rfl, ?_⟩
                  refine hK.out _ _ SE.out.at_ (fun hHeld => ?_)
                  clear hK K
                  simp only [Act.put, List.setIfInBounds_toArray, List.set_cons_zero, List.set_cons_succ]
                  refine last_ (i := 7) (N := none) #[true, true, true, true, true, true, true, true] rfl rfl (by kernel_rfl) (by decide) (fun K hK => ?_)
                  refine skip_ (w1 := World.setRow wc w2.heap.size c'.cells) (by rfl) rfl (rp_store _ _ _ _ w2.heap.size 50 (.tmp 4) (.tmp 70) c'.cells rfl rfl rfl (run_storeVar_row (P := Tryd.prog) wc w2.heap.size 50 50 _ c'.cells SE.out.at_ (rinfo.trans (rsize c')) rfl (rone c'))) ?_
                  have SF := Aside0.mk (SE.out.put (by have := HB2.out.size; omega) c')
                  refine hK.out _ _ ?_
                  clear hK K
                  refine done_ (by kernel_rfl) ?_
                  generalize World.setRow wc w2.heap.size c'.cells = wz at SF ⊢
                  go_wp2
                  go_roundg (ps.length - (n + 1))
                  case measure => omega
                  case rel => exact ⟨n + 1, rfl, by omega, by omega, c', HN, SF⟩
              · have c5b0 : ((bt arg 0) == 34) = false := beq_eq_false_iff_ne.mpr c5
                have c5b1 : ((bt arg 0) != 34) = true := bne_iff_ne.mpr c5
                have hu : unqB arg = arg := by unfold unqB; rw [if_pos c2, if_neg c5]
                have k5 : ∀ W, Calls Tryd.prog 60 #[.agg c.cells, .string nmL, .bool true, .string (arg)] W fun e w' => e = .returned (.agg c'.cells) ∧ Below W.heap.size W w' := by
                  intro W
                  have := sprref14_directive.own c nmL (unqB arg) true s1 s2 W (fun W => sprref14_Seconds.calls k _ s1 s2 W e5)
                  rw [hc1, hu] at this
                  exact this
                clear hu e5 hc1 hji
                clear hh hxs has c2 c5
                go_wp2_with (first | (go_at_call 58; (with_reducible refine (k1 _).mono ?_); rintro e w5 ⟨ad3, m3, c3, rfl, hm3, hn3, hb⟩; have SA0 := Aside0.mk (hS0.out.next hb); have hx1 := SA0.out.at_str (Nat.le_refl _) (show w2.cell? (ad.add n) = _ from HX.out); clear hb k1) | (go_at_call 59; (with_reducible refine (k2 _).mono ?_); rintro e w6 ⟨rfl, hb⟩; have SA := Aside0.mk (SA0.out.next hb.below); obtain ⟨nd6, rfl⟩ := hb; clear k2))
                refine start_ (n := 8) (S := fun w' => w'.heap[w2.heap.size]? = some (.cells c.cells 50 (0, 0))) (ds := [7]) #[false, false, false, false, false, false, false, false] (by kernel_rfl) rfl rfl (blk_drew SA.out.at_) (fun hHeld => ?_)
                have SB := Aside0.mk (SA.out.next (below_drew1 (Below.refl _ _)))
                generalize World.drew _ = wd at SB hHeld ⊢
                refine take_ (i := 0) (N := some 64) (v := .agg c.cells) #[true, false, false, false, false, false, false, false] rfl rfl (by kernel_rfl) (fun _ _ _ h => h) (rp_load (by rfl) 50 (.tmp 4) rfl w2.heap.size rfl c.cells 50 (0, 0) _ hu35 rfl (rinfo.trans (rsize c))) hHeld rfl ?_
                simp only [Act.put, List.setIfInBounds_toArray, List.set_cons_zero, List.set_cons_succ]
                refine pure_ (i := 1) (N := some 65) (v := .string name) #[true, true, false, false, false, false, false, false] rfl rfl (by kernel_rfl) (fun _ _ _ h => h) (Or.inl ⟨by rfl, by intro w'; rfl⟩) rfl ?_
                simp only [Act.put, List.setIfInBounds_toArray, List.set_cons_zero, List.set_cons_succ]
                refine pure_ (i := 4) (N := some 68) (v := .bool true) #[true, true, false, false, true, false, false, false] rfl rfl (by kernel_rfl) (fun _ _ _ h => h) (Or.inl ⟨by rfl, by intro w'; rfl⟩) rfl ?_
                simp only [Act.put, List.setIfInBounds_toArray, List.set_cons_zero, List.set_cons_succ]
                refine pure_ (i := 5) (N := some 69) (v := .string (arg)) #[true, true, false, false, true, true, false, false] rfl rfl (by kernel_rfl) (fun _ _ _ h => h) (Or.inl ⟨by rfl, by intro w'; rfl⟩) rfl ?_
                simp only [Act.put, List.setIfInBounds_toArray, List.set_cons_zero, List.set_cons_succ]
                refine one_ (i := 2) (N := some 66) #[true, true, true, false, true, true, false, false] rfl rfl (by kernel_rfl) (by decide) (fun K hK => ?_)
                refine goes_ Tryd.func59 (by kernel_rfl) rfl #[.string name] (by rfl) rfl rfl (by first | rfl | (simp only [List.map_toArray, List.map_cons, List.map_nil]; rfl)) ?_
                with_reducible refine (k3 _).mono ?_
                rintro e wt ⟨rfl, hb⟩
                have SC := Aside0.mk (SB.out.next hb.below)
                clear hb hHeld
                refine ⟨_, rfl, ?_⟩
                refine hK.out _ _ SC.out.at_ (fun hHeld => ?_)
                clear hK K
                simp only [Act.put, List.setIfInBounds_toArray, List.set_cons_zero, List.set_cons_succ]
                refine one_ (i := 3) (N := some 67) #[true, true, true, true, true, true, false, false] rfl rfl (by kernel_rfl) (by decide) (fun K hK => ?_)
                refine goes_ Tryd.func45 (by kernel_rfl) rfl #[.string u] (by rfl) rfl rfl (by first | rfl | (simp only [List.map_toArray, List.map_cons, List.map_nil]; rfl)) ?_
                with_reducible refine (k4 _).mono ?_
                rintro e wl ⟨rfl, hb⟩
                have SD := Aside0.mk (SC.out.next hb)
                clear hb hHeld
                refine ⟨_, rfl, ?_⟩
                refine hK.out _ _ SD.out.at_ (fun hHeld => ?_)
                clear hK K
                simp only [Act.put, List.setIfInBounds_toArray, List.set_cons_zero, List.set_cons_succ]
                refine one_ (i := 6) (N := some 70) #[true, true, true, true, true, true, true, false] rfl rfl (by kernel_rfl) (by decide) (fun K hK => ?_)
                refine goes_ Tryd.func60 (by kernel_rfl) rfl #[.agg c.cells, .string nmL, .bool true, .string (arg)] (by rfl) rfl rfl (by first | rfl | (simp only [List.map_toArray, List.map_cons, List.map_nil]; rfl)) ?_
                with_reducible refine (k5 _).mono ?_
                rintro e wc ⟨rfl, hb⟩
                have SE := Aside0.mk (SD.out.next hb)
                clear hb hHeld
                refine ⟨_, rfl, ?_⟩
                refine hK.out _ _ SE.out.at_ (fun hHeld => ?_)
                clear hK K
                simp only [Act.put, List.setIfInBounds_toArray, List.set_cons_zero, List.set_cons_succ]
                refine last_ (i := 7) (N := none) #[true, true, true, true, true, true, true, true] rfl rfl (by kernel_rfl) (by decide) (fun K hK => ?_)
                refine skip_ (w1 := World.setRow wc w2.heap.size c'.cells) (by rfl) rfl (rp_store _ _ _ _ w2.heap.size 50 (.tmp 4) (.tmp 70) c'.cells rfl rfl rfl (run_storeVar_row (P := Tryd.prog) wc w2.heap.size 50 50 _ c'.cells SE.out.at_ (rinfo.trans (rsize c')) rfl (rone c'))) ?_
                have SF := Aside0.mk (SE.out.put (by have := HB2.out.size; omega) c')
                refine hK.out _ _ ?_
                clear hK K
                refine done_ (by kernel_rfl) ?_
                generalize World.setRow wc w2.heap.size c'.cells = wz at SF ⊢
                go_wp2
                go_roundg (ps.length - (n + 1))
                case measure => omega
                case rel => exact ⟨n + 1, rfl, by omega, by omega, c', HN, SF⟩
            · have c2b0 : decide (2 ≤ (arg.size : Int)) = false := decide_eq_false (by omega)
              have c2b1 : decide (2 ≤ arg.size) = false := decide_eq_false (by omega)
              have hu : unqB arg = arg := by unfold unqB; rw [if_neg c2]
              have k5 : ∀ W, Calls Tryd.prog 60 #[.agg c.cells, .string nmL, .bool true, .string (arg)] W fun e w' => e = .returned (.agg c'.cells) ∧ Below W.heap.size W w' := by
                intro W
                have := sprref14_directive.own c nmL (unqB arg) true s1 s2 W (fun W => sprref14_Seconds.calls k _ s1 s2 W e5)
                rw [hc1, hu] at this
                exact this
              clear hu e5 hc1
              clear hh hxs has c2
              go_wp2_with (first | (go_at_call 58; (with_reducible refine (k1 _).mono ?_); rintro e w5 ⟨ad3, m3, c3, rfl, hm3, hn3, hb⟩; have SA0 := Aside0.mk (hS0.out.next hb); have hx1 := SA0.out.at_str (Nat.le_refl _) (show w2.cell? (ad.add n) = _ from HX.out); clear hb k1) | (go_at_call 59; (with_reducible refine (k2 _).mono ?_); rintro e w6 ⟨rfl, hb⟩; have SA := Aside0.mk (SA0.out.next hb.below); obtain ⟨nd6, rfl⟩ := hb; clear k2))
              refine start_ (n := 8) (S := fun w' => w'.heap[w2.heap.size]? = some (.cells c.cells 50 (0, 0))) (ds := [7]) #[false, false, false, false, false, false, false, false] (by kernel_rfl) rfl rfl (blk_drew SA.out.at_) (fun hHeld => ?_)
              have SB := Aside0.mk (SA.out.next (below_drew1 (Below.refl _ _)))
              generalize World.drew _ = wd at SB hHeld ⊢
              refine take_ (i := 0) (N := some 64) (v := .agg c.cells) #[true, false, false, false, false, false, false, false] rfl rfl (by kernel_rfl) (fun _ _ _ h => h) (rp_load (by rfl) 50 (.tmp 4) rfl w2.heap.size rfl c.cells 50 (0, 0) _ hu35 rfl (rinfo.trans (rsize c))) hHeld rfl ?_
              simp only [Act.put, List.setIfInBounds_toArray, List.set_cons_zero, List.set_cons_succ]
              refine pure_ (i := 1) (N := some 65) (v := .string name) #[true, true, false, false, false, false, false, false] rfl rfl (by kernel_rfl) (fun _ _ _ h => h) (Or.inl ⟨by rfl, by intro w'; rfl⟩) rfl ?_
              simp only [Act.put, List.setIfInBounds_toArray, List.set_cons_zero, List.set_cons_succ]
              refine pure_ (i := 4) (N := some 68) (v := .bool true) #[true, true, false, false, true, false, false, false] rfl rfl (by kernel_rfl) (fun _ _ _ h => h) (Or.inl ⟨by rfl, by intro w'; rfl⟩) rfl ?_
              simp only [Act.put, List.setIfInBounds_toArray, List.set_cons_zero, List.set_cons_succ]
              refine pure_ (i := 5) (N := some 69) (v := .string (arg)) #[true, true, false, false, true, true, false, false] rfl rfl (by kernel_rfl) (fun _ _ _ h => h) (Or.inl ⟨by rfl, by intro w'; rfl⟩) rfl ?_
              simp only [Act.put, List.setIfInBounds_toArray, List.set_cons_zero, List.set_cons_succ]
              refine one_ (i := 2) (N := some 66) #[true, true, true, false, true, true, false, false] rfl rfl (by kernel_rfl) (by decide) (fun K hK => ?_)
              refine goes_ Tryd.func59 (by kernel_rfl) rfl #[.string name] (by rfl) rfl rfl (by first | rfl | (simp only [List.map_toArray, List.map_cons, List.map_nil]; rfl)) ?_
              with_reducible refine (k3 _).mono ?_
              rintro e wt ⟨rfl, hb⟩
              have SC := Aside0.mk (SB.out.next hb.below)
              clear hb hHeld
              refine ⟨_, rfl, ?_⟩
              refine hK.out _ _ SC.out.at_ (fun hHeld => ?_)
              clear hK K
              simp only [Act.put, List.setIfInBounds_toArray, List.set_cons_zero, List.set_cons_succ]
              refine one_ (i := 3) (N := some 67) #[true, true, true, true, true, true, false, false] rfl rfl (by kernel_rfl) (by decide) (fun K hK => ?_)
              refine goes_ Tryd.func45 (by kernel_rfl) rfl #[.string u] (by rfl) rfl rfl (by first | rfl | (simp only [List.map_toArray, List.map_cons, List.map_nil]; rfl)) ?_
              with_reducible refine (k4 _).mono ?_
              rintro e wl ⟨rfl, hb⟩
              have SD := Aside0.mk (SC.out.next hb)
              clear hb hHeld
              refine ⟨_, rfl, ?_⟩
              refine hK.out _ _ SD.out.at_ (fun hHeld => ?_)
              clear hK K
              simp only [Act.put, List.setIfInBounds_toArray, List.set_cons_zero, List.set_cons_succ]
              refine one_ (i := 6) (N := some 70) #[true, true, true, true, true, true, true, false] rfl rfl (by kernel_rfl) (by decide) (fun K hK => ?_)
              refine goes_ Tryd.func60 (by kernel_rfl) rfl #[.agg c.cells, .string nmL, .bool true, .string (arg)] (by rfl) rfl rfl (by first | rfl | (simp only [List.map_toArray, List.map_cons, List.map_nil]; rfl)) ?_
              with_reducible refine (k5 _).mono ?_
              rintro e wc ⟨rfl, hb⟩
              have SE := Aside0.mk (SD.out.next hb)
              clear hb hHeld
              refine ⟨_, rfl, ?_⟩
              refine hK.out _ _ SE.out.at_ (fun hHeld => ?_)
              clear hK K
              simp only [Act.put, List.setIfInBounds_toArray, List.set_cons_zero, List.set_cons_succ]
              refine last_ (i := 7) (N := none) #[true, true, true, true, true, true, true, true] rfl rfl (by kernel_rfl) (by decide) (fun K hK => ?_)
              refine skip_ (w1 := World.setRow wc w2.heap.size c'.cells) (by rfl) rfl (rp_store _ _ _ _ w2.heap.size 50 (.tmp 4) (.tmp 70) c'.cells rfl rfl rfl (run_storeVar_row (P := Tryd.prog) wc w2.heap.size 50 50 _ c'.cells SE.out.at_ (rinfo.trans (rsize c')) rfl (rone c'))) ?_
              have SF := Aside0.mk (SE.out.put (by have := HB2.out.size; omega) c')
              refine hK.out _ _ ?_
              clear hK K
              refine done_ (by kernel_rfl) ?_
              generalize World.setRow wc w2.heap.size c'.cells = wz at SF ⊢
              go_wp2
              go_roundg (ps.length - (n + 1))
              case measure => omega
              case rel => exact ⟨n + 1, rfl, by omega, by omega, c', HN, SF⟩
          · rw [if_neg has] at hc1; cases hc1
        · rw [if_neg hxs] at hc1; cases hc1
      · rw [if_neg hh] at hc1
        unfold sprref14_Parse.tail at hc1
        obtain ⟨u, e3, hc1⟩ := Option.bind_eq_some_iff.1 hc1
        obtain ⟨nmL, e4, hc1⟩ := Option.bind_eq_some_iff.1 hc1
        obtain ⟨⟨s1, s2⟩, e5, hc1⟩ := Option.bind_eq_some_iff.1 hc1
        have hc1 := Option.some.inj hc1
        have k3 := fun W => sprref12_Trim.calls k _ u W e3
        have k4 := fun W => sprref12_Lower.calls u nmL W e4
        replace e5 : sprref14_Seconds.f k (⟨#[]⟩ : ByteArray) = some (s1, s2) := e5
        have k5 : ∀ W, Calls Tryd.prog 60 #[.agg c.cells, .string nmL, .bool false, .string (⟨#[]⟩ : ByteArray)] W fun e w' => e = .returned (.agg c'.cells) ∧ Below W.heap.size W w' := by
          intro W
          have := sprref14_directive.own c nmL (⟨#[]⟩ : ByteArray) false s1 s2 W (fun W => sprref14_Seconds.calls k _ s1 s2 W e5)
          rw [hc1] at this
          exact this
        clear e3 e4 e5 hc1
        have hb1 : decide ((name.size : Int) < (x.size : Int)) = false := decide_eq_false (by omega)
        have hb2 : decide (name.size < x.size) = false := decide_eq_false (by omega)
        clear hh
        go_wp2_with (first | (go_at_call 58; (with_reducible refine (k1 _).mono ?_); rintro e w5 ⟨ad3, m3, c3, rfl, hm3, hn3, hb⟩; have SA := Aside0.mk (hS0.out.next hb); have hx1 := SA.out.at_str (Nat.le_refl _) (show w2.cell? (ad.add n) = _ from HX.out); clear hb k1))
        refine start_ (n := 8) (S := fun w' => w'.heap[w2.heap.size]? = some (.cells c.cells 50 (0, 0))) (ds := [7]) #[false, false, false, false, false, false, false, false] (by kernel_rfl) rfl rfl (blk_drew SA.out.at_) (fun hHeld => ?_)
        have SB := Aside0.mk (SA.out.next (below_drew1 (Below.refl _ _)))
        generalize World.drew _ = wd at SB hHeld ⊢
        refine take_ (i := 0) (N := some 64) (v := .agg c.cells) #[true, false, false, false, false, false, false, false] rfl rfl (by kernel_rfl) (fun _ _ _ h => h) (rp_load (by rfl) 50 (.tmp 4) rfl w2.heap.size rfl c.cells 50 (0, 0) _ hu35 rfl (rinfo.trans (rsize c))) hHeld rfl ?_
        simp only [Act.put, List.setIfInBounds_toArray, List.set_cons_zero, List.set_cons_succ]
        refine pure_ (i := 1) (N := some 65) (v := .string name) #[true, true, false, false, false, false, false, false] rfl rfl (by kernel_rfl) (fun _ _ _ h => h) (Or.inl ⟨by rfl, by intro w'; rfl⟩) rfl ?_
        simp only [Act.put, List.setIfInBounds_toArray, List.set_cons_zero, List.set_cons_succ]
        refine pure_ (i := 4) (N := some 68) (v := .bool false) #[true, true, false, false, true, false, false, false] rfl rfl (by kernel_rfl) (fun _ _ _ h => h) (Or.inl ⟨by rfl, by intro w'; rfl⟩) rfl ?_
        simp only [Act.put, List.setIfInBounds_toArray, List.set_cons_zero, List.set_cons_succ]
        refine pure_ (i := 5) (N := some 69) (v := .string (⟨#[]⟩ : ByteArray)) #[true, true, false, false, true, true, false, false] rfl rfl (by kernel_rfl) (fun _ _ _ h => h) (Or.inl ⟨by rfl, by intro w'; rfl⟩) rfl ?_
        simp only [Act.put, List.setIfInBounds_toArray, List.set_cons_zero, List.set_cons_succ]
        refine one_ (i := 2) (N := some 66) #[true, true, true, false, true, true, false, false] rfl rfl (by kernel_rfl) (by decide) (fun K hK => ?_)
        refine goes_ Tryd.func59 (by kernel_rfl) rfl #[.string name] (by rfl) rfl rfl (by first | rfl | (simp only [List.map_toArray, List.map_cons, List.map_nil]; rfl)) ?_
        with_reducible refine (k3 _).mono ?_
        rintro e wt ⟨rfl, hb⟩
        have SC := Aside0.mk (SB.out.next hb.below)
        clear hb hHeld
        refine ⟨_, rfl, ?_⟩
        refine hK.out _ _ SC.out.at_ (fun hHeld => ?_)
        clear hK K
        simp only [Act.put, List.setIfInBounds_toArray, List.set_cons_zero, List.set_cons_succ]
        refine one_ (i := 3) (N := some 67) #[true, true, true, true, true, true, false, false] rfl rfl (by kernel_rfl) (by decide) (fun K hK => ?_)
        refine goes_ Tryd.func45 (by kernel_rfl) rfl #[.string u] (by rfl) rfl rfl (by first | rfl | (simp only [List.map_toArray, List.map_cons, List.map_nil]; rfl)) ?_
        with_reducible refine (k4 _).mono ?_
        rintro e wl ⟨rfl, hb⟩
        have SD := Aside0.mk (SC.out.next hb)
        clear hb hHeld
        refine ⟨_, rfl, ?_⟩
        refine hK.out _ _ SD.out.at_ (fun hHeld => ?_)
        clear hK K
        simp only [Act.put, List.setIfInBounds_toArray, List.set_cons_zero, List.set_cons_succ]
        refine one_ (i := 6) (N := some 70) #[true, true, true, true, true, true, true, false] rfl rfl (by kernel_rfl) (by decide) (fun K hK => ?_)
        refine goes_ Tryd.func60 (by kernel_rfl) rfl #[.agg c.cells, .string nmL, .bool false, .string (⟨#[]⟩ : ByteArray)] (by rfl) rfl rfl (by first | rfl | (simp only [List.map_toArray, List.map_cons, List.map_nil]; rfl)) ?_
        with_reducible refine (k5 _).mono ?_
        rintro e wc ⟨rfl, hb⟩
        have SE := Aside0.mk (SD.out.next hb)
        clear hb hHeld
        refine ⟨_, rfl, ?_⟩
        refine hK.out _ _ SE.out.at_ (fun hHeld => ?_)
        clear hK K
        simp only [Act.put, List.setIfInBounds_toArray, List.set_cons_zero, List.set_cons_succ]
        refine last_ (i := 7) (N := none) #[true, true, true, true, true, true, true, true] rfl rfl (by kernel_rfl) (by decide) (fun K hK => ?_)
        refine skip_ (w1 := World.setRow wc w2.heap.size c'.cells) (by rfl) rfl (rp_store _ _ _ _ w2.heap.size 50 (.tmp 4) (.tmp 70) c'.cells rfl rfl rfl (run_storeVar_row (P := Tryd.prog) wc w2.heap.size 50 50 _ c'.cells SE.out.at_ (rinfo.trans (rsize c')) rfl (rone c'))) ?_
        have SF := Aside0.mk (SE.out.put (by have := HB2.out.size; omega) c')
        refine hK.out _ _ ?_
        clear hK K
        refine done_ (by kernel_rfl) ?_
        generalize World.setRow wc w2.heap.size c'.cells = wz at SF ⊢
        go_wp2
        go_roundg (ps.length - (n + 1))
        case measure => omega
        case rel => exact ⟨n + 1, rfl, by omega, by omega, c', HN, SF⟩
    · have q1 : decide ((n : Int) < (ps.length : Int)) = false := decide_eq_false (by omega)
      have hd : ps.drop n = [] := List.drop_eq_nil_of_le (by omega)
      have hst' := hst.out
      rw [hd] at hst'
      obtain rfl : c = r := Option.some.inj hst'
      have hlt2 := blk_lt HZ2.out
      have hc15 := (blk_cell hS0.out.at_ 15).trans (show c.cells[15]? = some (.bool c.h2) from rfl)
      have hf10 := blk_frozen hS0.out.at_ 10
      have hc10 := (blk_cell hS0.out.at_ 10).trans (show c.cells[10]? = some (.bool c.b10) from rfl)
      have hu33 := Tryd.underlying48
      clear hd hst' hst
      have hres : wr.heap[w.heap.size]? = some (.cells Own.Ctl.zero.cells 50 (0, 0)) := (hS0.out.keep.2 w.heap.size hlt2 (by omega) (by simp)).trans HZ2.out
      have hres2 : (wr.setCell ⟨w2.heap.size, 10, none⟩ (.bool false)).heap[w.heap.size]? = some (.cells Own.Ctl.zero.cells 50 (0, 0)) := blk_far hres (by show w.heap.size ≠ w2.heap.size; omega) _
      obtain ⟨fc, hfc⟩ : ∃ fc, fc = c.fin.cells := ⟨_, rfl⟩
      have hsz : some 21 = some fc.size := by rw [hfc]; rfl
      have hone : fc.all (·.oneCell') = true := by rw [hfc]; exact rone _
      have HFC := Aside0.mk hfc
      have HRES := Aside0.mk hres
      have HRES2 := Aside0.mk hres2
      have HSZ := Aside0.mk hsz
      have hge : w.heap.size ≤ w2.heap.size := by omega
      have HGE := Aside0.mk hge
      have HBEL := Aside0.mk hS0.out.below
      cases hh : c.h2 with
      | true =>
        have hv : (wr.setCell ⟨w2.heap.size, 10, none⟩ (.bool false)).heap[w2.heap.size]? = some (.cells fc 50 (0, 0)) := by
          rw [blk_set hS0.out.at_ 10, hfc]
          unfold Own.Ctl.fin Own.Ctl.cells
          rw [hh]
          simp
        have HV := Aside0.mk hv
        rw [hh] at hc15
        clear hh hv hres hres2 hfc hsz hlt2 hge
        go_wp2_with (first | ((with_reducible refine gate_dst (N := 75) rfl ?_); refine wpList_load_row rfl 50 (.tmp 4) rfl w2.heap.size rfl 50 fc (0, 0) _ HV.out hu35 rfl (rinfo.trans HSZ.out) ?_) | ((with_reducible refine gate_store (t := 50) rfl ?_); refine wpList_store_row rfl 50 (.tmp 2) (.tmp 75) rfl w.heap.size fc rfl rfl 50 Own.Ctl.zero.cells HRES2.out (rinfo.trans HSZ.out) (by rw [← Option.some.inj HSZ.out]; rfl) hone ?_))
        refine bodyPost_ret (results_cell_row rfl _ _ w.heap.size 50 fc (0, 0) _ rfl (setRow_heap _ _ _ _ _ _ HRES2.out) hu35 rfl (rinfo.trans HSZ.out)) rfl ?_
        exact ⟨by rw [HFC.out], rbelow_setRow (HBEL.out.setCell HGE.out _) (Nat.le_refl _) _⟩
      | false =>
        have hv : wr.heap[w2.heap.size]? = some (.cells fc 50 (0, 0)) := by
          rw [hS0.out.at_, hfc]
          unfold Own.Ctl.fin Own.Ctl.cells
          rw [hh]
          simp
        have HV := Aside0.mk hv
        rw [hh] at hc15
        clear hh hv hres hres2 hfc hsz hlt2 hge
        go_wp2_with (first | ((with_reducible refine gate_dst (N := 75) rfl ?_); refine wpList_load_row rfl 50 (.tmp 4) rfl w2.heap.size rfl 50 fc (0, 0) _ HV.out hu35 rfl (rinfo.trans HSZ.out) ?_) | ((with_reducible refine gate_store (t := 50) rfl ?_); refine wpList_store_row rfl 50 (.tmp 2) (.tmp 75) rfl w.heap.size fc rfl rfl 50 Own.Ctl.zero.cells HRES.out (rinfo.trans HSZ.out) (by rw [← Option.some.inj HSZ.out]; rfl) hone ?_))
        refine bodyPost_ret (results_cell_row rfl _ _ w.heap.size 50 fc (0, 0) _ rfl (setRow_heap _ _ _ _ _ _ HRES.out) hu35 rfl (rinfo.trans HSZ.out)) rfl ?_
        exact ⟨by rw [HFC.out], rbelow_setRow HBEL.out (Nat.le_refl _) _⟩
def sprref14_Parse.f (k : Nat) (l0 : List ByteArray) : Option (Bool × Bool × Bool × Bool × Bool × Bool × Bool × Bool × Bool × Bool × Bool × Bool × Int × Bool × Int × Bool × Int × Bool × Int × Bool × Int) :=
  (sprref12_Split.f k l0).bind fun ps => (sprref14_Parse.steps k ps Own.Ctl.zero).bind fun c => some c.fin.tup
theorem sprref14_Parse.mono_tail (k : Nat) (c : Own.Ctl) (name : ByteArray) (has : Bool) (arg : ByteArray) : LeO (sprref14_Parse.tail k c name has arg) (sprref14_Parse.tail (k + 1) c name has arg) := by
  unfold sprref14_Parse.tail
  exact LeO.bind (sprref12_Trim.mono _ k) fun _ => LeO.bind (LeO.refl _) fun _ => LeO.bind (sprref14_Seconds.mono _ k) fun _ => LeO.refl _
theorem sprref14_Parse.mono_steps (k : Nat) : ∀ (ps : List ByteArray) (c : Own.Ctl), LeO (sprref14_Parse.steps k ps c) (sprref14_Parse.steps (k + 1) ps c)
  | [], c => LeO.refl _
  | p :: t, c => by
    unfold sprref14_Parse.steps sprref14_Parse.step
    refine LeO.bind ?_ (fun _ => sprref14_Parse.mono_steps k t _)
    refine LeO.bind (sprref_Split.mono _ _ k) fun l => ?_
    cases l with
    | nil => exact LeO.refl _
    | cons name l =>
      show LeO (sprref14_Parse.named k c p name) (sprref14_Parse.named (k + 1) c p name)
      unfold sprref14_Parse.named
      by_cases h1 : name.size < p.size
      · rw [if_pos h1, if_pos h1]
        by_cases h2 : p.size ≤ 9223372036854775806
        · rw [if_pos h2, if_pos h2]
          refine LeO.bind (sprref12_Trim.mono _ k) fun arg => ?_
          by_cases h3 : arg.size ≤ 9223372036854775806
          · rw [if_pos h3, if_pos h3]; exact sprref14_Parse.mono_tail _ _ _ _ _
          · rw [if_neg h3, if_neg h3]; exact LeO.refl _
        · rw [if_neg h2, if_neg h2]; exact LeO.refl _
      · rw [if_neg h1, if_neg h1]; exact sprref14_Parse.mono_tail _ _ _ _ _
theorem sprref14_Parse.mono : ∀ a0 k, LeO (sprref14_Parse.f k a0) (sprref14_Parse.f (k + 1) a0) := by
  intro a0 k
  unfold sprref14_Parse.f
  exact LeO.bind (sprref12_Split.mono _ k) fun _ => LeO.bind (sprref14_Parse.mono_steps k _ _) fun _ => LeO.refl _
theorem sprref14_Parse.calls (k : Nat) (A0 : Option Addr) (c0 : Nat) (l0 : List ByteArray) (r1 : Bool) (r2 : Bool) (r3 : Bool) (r4 : Bool) (r5 : Bool) (r6 : Bool) (r7 : Bool) (r8 : Bool) (r9 : Bool) (r10 : Bool) (r11 : Bool) (r12 : Bool) (r13 : Int) (r14 : Bool) (r15 : Int) (r16 : Bool) (r17 : Int) (r18 : Bool) (r19 : Int) (r20 : Bool) (r21 : Int) (w : World) (hr0 : Kd.C Kd.string w A0 l0.length l0) (hc0 : l0.length ≤ c0) (h : sprref14_Parse.f k l0 = some (r1, r2, r3, r4, r5, r6, r7, r8, r9, r10, r11, r12, r13, r14, r15, r16, r17, r18, r19, r20, r21)) :
    Calls Tryd.prog 46 #[.slice A0 l0.length c0] w fun e w' => e = .returned (.agg #[.bool r1, .bool r2, .bool r3, .bool r4, .bool r5, .bool r6, .bool r7, .bool r8, .bool r9, .bool r10, .bool r11, .bool r12, .int .i64 r13, .bool r14, .int .i64 r15, .bool r16, .int .i64 r17, .bool r18, .int .i64 r19, .bool r20, .int .i64 r21]) ∧ Below w.heap.size w w' := by
  unfold sprref14_Parse.f at h
  obtain ⟨ps, h1, h⟩ := Option.bind_eq_some_iff.1 h
  obtain ⟨c, h2, h⟩ := Option.bind_eq_some_iff.1 h
  have h := Option.some.inj h
  unfold Own.Ctl.tup at h
  simp only [Prod.mk.injEq] at h
  obtain ⟨rfl, rfl, rfl, rfl, rfl, rfl, rfl, rfl, rfl, rfl, rfl, rfl, rfl, rfl, rfl, rfl, rfl, rfl, rfl, rfl, rfl⟩ := h
  exact sprref14_Parse.own k A0 c0 l0 ps c w hr0 hc0 h1 h2
def rpR (k : Nat) (v : List ByteArray) : Option Own.Ctl := (sprref12_Split.f k v).bind fun ps => (sprref14_Parse.steps k ps Own.Ctl.zero).bind fun c => some c.fin
theorem rpR_mono (k : Nat) (v : List ByteArray) : LeO (rpR k v) (rpR (k + 1) v) := LeO.bind (sprref12_Split.mono _ k) fun _ => LeO.bind (sprref14_Parse.mono_steps k _ _) fun _ => LeO.refl _
theorem rpR_calls (k : Nat) (A : Option Addr) (c0 : Nat) (l : List ByteArray) (c : Own.Ctl) (w : World) (hr0 : Kd.C Kd.string w A l.length l) (hc0 : l.length ≤ c0) (h : rpR k l = some c) :
    Calls Tryd.prog 46 #[.slice A l.length c0] w fun e w' => e = .returned (.agg c.cells) ∧ Below w.heap.size w w' := by
  unfold rpR at h
  obtain ⟨ps, h1, h⟩ := Option.bind_eq_some_iff.1 h
  obtain ⟨c1, h2, h⟩ := Option.bind_eq_some_iff.1 h
  obtain rfl := Option.some.inj h
  exact sprref14_Parse.own k A c0 l ps c1 w hr0 hc0 h1 h2


end Go.Proofs.YtlkbnbkabpodoaaDoor.U
