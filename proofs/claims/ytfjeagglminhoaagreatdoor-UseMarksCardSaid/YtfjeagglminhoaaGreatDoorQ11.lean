-- Written by a program of this session's (wip/xprint.py), out of the seat's translation.
import Derived.Test.YtfjeagglminhoaaGreatDoorQ0
import Derived.Test.YtfjeagglminhoaaGreatDoorQ1
import Derived.Test.YtfjeagglminhoaaGreatDoorQ4
import Derived.Test.YtfjeagglminhoaaGreatDoorQ5
import Derived.Test.YtfjeagglminhoaaGreatDoorSh
namespace Go.Proofs.YtfjeagglminhoaaGreatDoor.Q
open Go.RowKit Go.Proofs.YtfjeagglminhoaaGreatDoorW.PrintWords Go.Proofs.YtfjeagglminhoaaGreatDoorW.PrintLast Go.Proofs.YtfjeagglminhoaaGreatDoorW.PrintMore
open Go.Proofs.YtfjeagglminhoaaGreatDoor.Own (Y Z sA sB sC)
open Go.Proofs.YtfjeagglminhoaaGreatDoor.Sh
attribute [local go_sem] max2_int min2_int max_two min_two max_three min_three max_four min_four   -- for this text's walks alone
set_option linter.unusedVariables false
set_option linter.unusedSimpArgs false
/-! ### etag_Print: function 9 -/
def etag_Print.f (k : Nat) (a0_0 : Bool) (a0_1 : ByteArray) : Option (ByteArray × Bool) := if 1 + a0_1.size ≤ 9223372036854775807 then (if ((⟨#[34]⟩ : ByteArray) ++ a0_1).size + 1 ≤ 9223372036854775807 then (if a0_0 = true then (if 2 + (((⟨#[34]⟩ : ByteArray) ++ a0_1) ++ (⟨#[34]⟩ : ByteArray)).size ≤ 9223372036854775807 then ((etag_Parse.f k ((⟨#[87, 47]⟩ : ByteArray) ++ (((⟨#[34]⟩ : ByteArray) ++ a0_1) ++ (⟨#[34]⟩ : ByteArray)))).bind fun bt301 => (if bt301.2.2 = true then (some ((⟨#[87, 47]⟩ : ByteArray) ++ (((⟨#[34]⟩ : ByteArray) ++ a0_1) ++ (⟨#[34]⟩ : ByteArray)), true)) else (some ((⟨#[]⟩ : ByteArray), false)))) else (none)) else ((etag_Parse.f k (((⟨#[34]⟩ : ByteArray) ++ a0_1) ++ (⟨#[34]⟩ : ByteArray))).bind fun bt305 => (if bt305.2.2 = true then (some (((⟨#[34]⟩ : ByteArray) ++ a0_1) ++ (⟨#[34]⟩ : ByteArray), true)) else (some ((⟨#[]⟩ : ByteArray), false))))) else (none)) else (none)
theorem etag_Print.mono : ∀ a0 a1 k, LeO (etag_Print.f k a0 a1) (etag_Print.f (k + 1) a0 a1) := by
 intro a0 a1 k
 unfold etag_Print.f
 repeat' first
   | (with_reducible exact etag_Parse.mono _ _)
   | (with_reducible exact LeO.refl _)
   | (with_reducible exact LeO.none _)
   | (with_reducible refine LeO.ite ?_ ?_)
   | (with_reducible refine LeO.bind ?_ (fun _ => ?_))
   | exact etag_Parse.mono _ _
   | exact LeO.none _
   | refine LeO.ite ?_ ?_
   | refine LeO.bind ?_ (fun _ => ?_)
set_option maxHeartbeats 2000000 in
set_option maxRecDepth 100000 in
theorem etag_Print.calls (k : Nat) (a0_0 : Bool) (a0_1 : ByteArray) (r1 : ByteArray) (r2 : Bool) (w : World) (h : etag_Print.f k a0_0 a0_1 = some (r1, r2)) :
  Calls Tryz.prog 9 #[.agg #[.bool a0_0, .string a0_1]] w fun e w' => e = .returned (.tuple #[.string r1, .bool r2]) ∧ Below w.heap.size w w' := by
 have hu29 := Tryz.underlying29;have HB := Aside0.mk (Below.refl w.heap.size w);have H : (if 1 + a0_1.size ≤ 9223372036854775807 then (if ((⟨#[34]⟩ : ByteArray) ++ a0_1).size + 1 ≤ 9223372036854775807 then (if a0_0 = true then (if 2 + (((⟨#[34]⟩ : ByteArray) ++ a0_1) ++ (⟨#[34]⟩ : ByteArray)).size ≤ 9223372036854775807 then ((etag_Parse.f k ((⟨#[87, 47]⟩ : ByteArray) ++ (((⟨#[34]⟩ : ByteArray) ++ a0_1) ++ (⟨#[34]⟩ : ByteArray)))).bind fun bt301 => (if bt301.2.2 = true then (some ((⟨#[87, 47]⟩ : ByteArray) ++ (((⟨#[34]⟩ : ByteArray) ++ a0_1) ++ (⟨#[34]⟩ : ByteArray)), true)) else (some ((⟨#[]⟩ : ByteArray), false)))) else (none)) else ((etag_Parse.f k (((⟨#[34]⟩ : ByteArray) ++ a0_1) ++ (⟨#[34]⟩ : ByteArray))).bind fun bt305 => (if bt305.2.2 = true then (some (((⟨#[34]⟩ : ByteArray) ++ a0_1) ++ (⟨#[34]⟩ : ByteArray), true)) else (some ((⟨#[]⟩ : ByteArray), false))))) else (none)) else (none)) = some (r1, r2) := h;clear h
 by_cases c2 : 1 + a0_1.size ≤ 9223372036854775807
 ·rw [if_pos c2] at H
  have c2b0 := eq_true c2;have c2b1 : decide (1 + a0_1.size ≤ 9223372036854775807) = true := decide_eq_true c2;(try have c2b2 : (9223372036854775807 < 1 + a0_1.size) = False := eq_false (Nat.not_lt.2 c2))
  by_cases c3 : ((⟨#[34]⟩ : ByteArray) ++ a0_1).size + 1 ≤ 9223372036854775807
  ·rw [if_pos c3] at H
   have c3b0 := eq_true c3;have c3b1 : decide (((⟨#[34]⟩ : ByteArray) ++ a0_1).size + 1 ≤ 9223372036854775807) = true := decide_eq_true c3;(try have c3b2 : (9223372036854775807 < ((⟨#[34]⟩ : ByteArray) ++ a0_1).size + 1) = False := eq_false (Nat.not_lt.2 c3))
   (try (have c3y : (9223372036854775807 < 1 + a0_1.size + 1) = False := eq_false (by have zz := c3; simp only [ByteArray.size_append, ByteArray.size_extract, Nat.sub_zero] at zz; have e0 : (⟨#[34]⟩ : ByteArray).size = 1 := rfl; omega)))
   (try (have c3s := c3; simp [go_sem] at c3s)); (try (have c3z := eq_false (Nat.not_lt.2 c3s)))
   by_cases c4 : a0_0 = true
   ·subst c4
    (have H1 : (if 2 + (((⟨#[34]⟩ : ByteArray) ++ a0_1) ++ (⟨#[34]⟩ : ByteArray)).size ≤ 9223372036854775807 then ((etag_Parse.f k ((⟨#[87, 47]⟩ : ByteArray) ++ (((⟨#[34]⟩ : ByteArray) ++ a0_1) ++ (⟨#[34]⟩ : ByteArray)))).bind fun bt301 => (if bt301.2.2 = true then (some ((⟨#[87, 47]⟩ : ByteArray) ++ (((⟨#[34]⟩ : ByteArray) ++ a0_1) ++ (⟨#[34]⟩ : ByteArray)), true)) else (some ((⟨#[]⟩ : ByteArray), false)))) else (none)) = some (r1, r2) := by rw [if_pos rfl] at H; exact H);clear H;have H := H1;clear H1
    by_cases c5 : 2 + (((⟨#[34]⟩ : ByteArray) ++ a0_1) ++ (⟨#[34]⟩ : ByteArray)).size ≤ 9223372036854775807
    ·rw [if_pos c5] at H
     have c5b0 := eq_true c5;have c5b1 : decide (2 + (((⟨#[34]⟩ : ByteArray) ++ a0_1) ++ (⟨#[34]⟩ : ByteArray)).size ≤ 9223372036854775807) = true := decide_eq_true c5;(try have c5b2 : (9223372036854775807 < 2 + (((⟨#[34]⟩ : ByteArray) ++ a0_1) ++ (⟨#[34]⟩ : ByteArray)).size) = False := eq_false (Nat.not_lt.2 c5))
     (try (have c5s := c5; simp [go_sem] at c5s)); (try (have c5z := eq_false (Nat.not_lt.2 c5s)))
     replace H := Option.bind_eq_some_iff.mp H;obtain ⟨⟨t301, t302, t303⟩, A60, H⟩ := H;replace H : (if t303 = true then (some ((⟨#[87, 47]⟩ : ByteArray) ++ (((⟨#[34]⟩ : ByteArray) ++ a0_1) ++ (⟨#[34]⟩ : ByteArray)), true)) else (some ((⟨#[]⟩ : ByteArray), false))) = some (r1, r2) := H;have A6 := Aside0.mk A60;clear A60
     by_cases c7 : t303 = true
     ·subst c7;(have H1 : (some ((⟨#[87, 47]⟩ : ByteArray) ++ (((⟨#[34]⟩ : ByteArray) ++ a0_1) ++ (⟨#[34]⟩ : ByteArray)), true)) = some (r1, r2) := by rw [if_pos rfl] at H; exact H);clear H;have H := H1;clear H1;simp only [Option.some.injEq, Prod.mk.injEq] at H;obtain ⟨rfl, rfl⟩ := H;go_enter Tryz.func9, Tryz.ntmps9;go_wp2_with (first | ((with_reducible refine gate_dst (N:=1) rfl ?_); refine box_event ?hg (N:=1) ?hd (cs := #[.bool true, .string a0_1]) (t:=29) ?hr ?_; (case hd => rfl); (case hg => rfl); (case hr => first | (go_simp; done) | (go_simp; rfl)); intro gb300 hg w8 hbox hb; have n0_ := Aside0.mk (below_step (hA HB.out) hb); have n1_ := Aside0.mk (hbox); have n2_ := Aside0.mk ((by rw [hg]; exact (below_size (hA HB.out)) : w.heap.size ≤ gb300)); have n3_ := Aside0.mk ((by rw [hg]; exact (below_size (hA HB.out)) : w.heap.size ≤ gb300)); clear HB; have HB := n0_; have BK300 := n1_; have GW300 := n2_; have GE300 := n3_; clear n0_ n1_ n2_ n3_; clear hb hbox hg; have hcz9_0 := bC BK300.out 0 rfl; have hcz9_1 := bC BK300.out 1 rfl; have hfz9_0 := blk_frozen BK300.out 0; have hfz9_1 := blk_frozen BK300.out 1) | ((with_reducible refine gate_callee (f:=17) rfl ?_); refine goesL_ (some 17) rfl rfl Tryz.func17 (by kernel_rfl) rfl #[.string ((⟨#[87, 47]⟩ : ByteArray) ++ (((⟨#[34]⟩ : ByteArray) ++ a0_1) ++ (⟨#[34]⟩ : ByteArray)))] rfl (by (try simp only [List.map_toArray, List.map_cons, List.map_nil]); first | done | rfl | (simp only [List.length_drop, List.length_take]; rfl)) ?_; (with_reducible refine (etag_Parse.calls k ((⟨#[87, 47]⟩ : ByteArray) ++ (((⟨#[34]⟩ : ByteArray) ++ a0_1) ++ (⟨#[34]⟩ : ByteArray))) t301 t302 true _ A6.out).mono ?_); rintro e w10 ⟨rfl, hb⟩; refine ⟨_, rfl, ?_⟩; have n0_ := Aside0.mk (blk_below (bA BK300.out) hb); have n1_ := Aside0.mk (below_step (hA1 HB.out GE300.out) hb); clear BK300; clear HB; have BK300 := n0_; have HB := n1_; clear n0_ n1_; (try clear hb); (try clear hb2); (try clear hk); (try clear hi)) | ((with_reducible refine gate_dst (N:=5) rfl ?_); refine box_event ?hg (N:=5) ?hd (cs := #[.bool false, .string (⟨#[]⟩ : ByteArray)]) (t:=29) ?hr ?_; (case hd => rfl); (case hg => rfl); (case hr => first | (go_simp; done) | (go_simp; rfl)); intro gb304 hg w11 hbox hb; have n0_ := Aside0.mk (blk_below (bA BK300.out) hb); have n1_ := Aside0.mk (below_step (hA1 HB.out GE300.out) hb); have n2_ := Aside0.mk (hbox); have n3_ := Aside0.mk ((by rw [hg]; exact (below_size (hA1 HB.out GE300.out)) : w.heap.size ≤ gb304)); have n4_ := Aside0.mk ((by rw [hg]; exact (below_size (hA1 HB.out GE300.out)) : w.heap.size ≤ gb304)); have n5_ := Aside0.mk ((by rw [hg]; exact Nat.ne_of_lt (blk_lt (bA BK300.out)) : gb300 ≠ gb304)); have n6_ := Aside0.mk ((by rw [hg]; exact Nat.ne_of_gt (blk_lt (bA BK300.out)) : gb304 ≠ gb300)); clear BK300; clear HB; have BK300 := n0_; have HB := n1_; have BK304 := n2_; have GW304 := n3_; have GE304 := n4_; have NB300_304 := n5_; have NB304_300 := n6_; clear n0_ n1_ n2_ n3_ n4_ n5_ n6_; clear hb hbox hg; have hnb12 := NB304_300.out; have hnc12 := NB300_304.out; have hcz13_0 := bC BK304.out 0 rfl; have hcz13_1 := bC BK304.out 1 rfl; have hfz13_0 := blk_frozen BK304.out 0; have hfz13_1 := blk_frozen BK304.out 1));go_ret2;exact ⟨by first | rfl | (simp [errW_none, errW_some] <;> rfl) | (simp [*, errW_none, errW_some] <;> rfl), by repeat (first | (with_reducible first | exact HB.out | apply below_alloc | apply pw_below_drewN | apply below_drew1 | refine below_set ?_ GE300.out | refine below_set ?_ GE304.out) | exact HB.out)⟩
     ·replace c7 := Bool.eq_false_iff.mpr c7;subst c7;(have H1 : (some ((⟨#[]⟩ : ByteArray), false)) = some (r1, r2) := by rw [if_neg (show ¬ (false = true) by decide)] at H; exact H);clear H;have H := H1;clear H1;simp only [Option.some.injEq, Prod.mk.injEq] at H;obtain ⟨rfl, rfl⟩ := H;go_enter Tryz.func9, Tryz.ntmps9;go_wp2_with (first | ((with_reducible refine gate_dst (N:=1) rfl ?_); refine box_event ?hg (N:=1) ?hd (cs := #[.bool true, .string a0_1]) (t:=29) ?hr ?_; (case hd => rfl); (case hg => rfl); (case hr => first | (go_simp; done) | (go_simp; rfl)); intro gb300 hg w14 hbox hb; have n0_ := Aside0.mk (below_step (hA HB.out) hb); have n1_ := Aside0.mk (hbox); have n2_ := Aside0.mk ((by rw [hg]; exact (below_size (hA HB.out)) : w.heap.size ≤ gb300)); have n3_ := Aside0.mk ((by rw [hg]; exact (below_size (hA HB.out)) : w.heap.size ≤ gb300)); clear HB; have HB := n0_; have BK300 := n1_; have GW300 := n2_; have GE300 := n3_; clear n0_ n1_ n2_ n3_; clear hb hbox hg; have hcz15_0 := bC BK300.out 0 rfl; have hcz15_1 := bC BK300.out 1 rfl; have hfz15_0 := blk_frozen BK300.out 0; have hfz15_1 := blk_frozen BK300.out 1) | ((with_reducible refine gate_callee (f:=17) rfl ?_); refine goesL_ (some 17) rfl rfl Tryz.func17 (by kernel_rfl) rfl #[.string ((⟨#[87, 47]⟩ : ByteArray) ++ (((⟨#[34]⟩ : ByteArray) ++ a0_1) ++ (⟨#[34]⟩ : ByteArray)))] rfl (by (try simp only [List.map_toArray, List.map_cons, List.map_nil]); first | done | rfl | (simp only [List.length_drop, List.length_take]; rfl)) ?_; (with_reducible refine (etag_Parse.calls k ((⟨#[87, 47]⟩ : ByteArray) ++ (((⟨#[34]⟩ : ByteArray) ++ a0_1) ++ (⟨#[34]⟩ : ByteArray))) t301 t302 false _ A6.out).mono ?_); rintro e w16 ⟨rfl, hb⟩; refine ⟨_, rfl, ?_⟩; have n0_ := Aside0.mk (blk_below (bA BK300.out) hb); have n1_ := Aside0.mk (below_step (hA1 HB.out GE300.out) hb); clear BK300; clear HB; have BK300 := n0_; have HB := n1_; clear n0_ n1_; (try clear hb); (try clear hb2); (try clear hk); (try clear hi)) | ((with_reducible refine gate_dst (N:=5) rfl ?_); refine box_event ?hg (N:=5) ?hd (cs := #[.bool false, .string (⟨#[]⟩ : ByteArray)]) (t:=29) ?hr ?_; (case hd => rfl); (case hg => rfl); (case hr => first | (go_simp; done) | (go_simp; rfl)); intro gb304 hg w17 hbox hb; have n0_ := Aside0.mk (blk_below (bA BK300.out) hb); have n1_ := Aside0.mk (below_step (hA1 HB.out GE300.out) hb); have n2_ := Aside0.mk (hbox); have n3_ := Aside0.mk ((by rw [hg]; exact (below_size (hA1 HB.out GE300.out)) : w.heap.size ≤ gb304)); have n4_ := Aside0.mk ((by rw [hg]; exact (below_size (hA1 HB.out GE300.out)) : w.heap.size ≤ gb304)); have n5_ := Aside0.mk ((by rw [hg]; exact Nat.ne_of_lt (blk_lt (bA BK300.out)) : gb300 ≠ gb304)); have n6_ := Aside0.mk ((by rw [hg]; exact Nat.ne_of_gt (blk_lt (bA BK300.out)) : gb304 ≠ gb300)); clear BK300; clear HB; have BK300 := n0_; have HB := n1_; have BK304 := n2_; have GW304 := n3_; have GE304 := n4_; have NB300_304 := n5_; have NB304_300 := n6_; clear n0_ n1_ n2_ n3_ n4_ n5_ n6_; clear hb hbox hg; have hnb18 := NB304_300.out; have hnc18 := NB300_304.out; have hcz19_0 := bC BK304.out 0 rfl; have hcz19_1 := bC BK304.out 1 rfl; have hfz19_0 := blk_frozen BK304.out 0; have hfz19_1 := blk_frozen BK304.out 1));go_ret2;exact ⟨by first | rfl | (simp [errW_none, errW_some] <;> rfl) | (simp [*, errW_none, errW_some] <;> rfl), by repeat (first | (with_reducible first | exact HB.out | apply below_alloc | apply pw_below_drewN | apply below_drew1 | refine below_set ?_ GE300.out | refine below_set ?_ GE304.out) | exact HB.out)⟩
    ·rw [if_neg c5] at H;exact absurd H (by simp)
   ·replace c4 := Bool.eq_false_iff.mpr c4
    subst c4;(have H1 : ((etag_Parse.f k (((⟨#[34]⟩ : ByteArray) ++ a0_1) ++ (⟨#[34]⟩ : ByteArray))).bind fun bt305 => (if bt305.2.2 = true then (some (((⟨#[34]⟩ : ByteArray) ++ a0_1) ++ (⟨#[34]⟩ : ByteArray), true)) else (some ((⟨#[]⟩ : ByteArray), false)))) = some (r1, r2) := by rw [if_neg (show ¬ (false = true) by decide)] at H; exact H);clear H;have H := H1;clear H1;replace H := Option.bind_eq_some_iff.mp H;obtain ⟨⟨t305, t306, t307⟩, A200, H⟩ := H;replace H : (if t307 = true then (some (((⟨#[34]⟩ : ByteArray) ++ a0_1) ++ (⟨#[34]⟩ : ByteArray), true)) else (some ((⟨#[]⟩ : ByteArray), false))) = some (r1, r2) := H;have A20 := Aside0.mk A200;clear A200
    by_cases c21 : t307 = true
    ·subst c21;(have H1 : (some (((⟨#[34]⟩ : ByteArray) ++ a0_1) ++ (⟨#[34]⟩ : ByteArray), true)) = some (r1, r2) := by rw [if_pos rfl] at H; exact H);clear H;have H := H1;clear H1;simp only [Option.some.injEq, Prod.mk.injEq] at H;obtain ⟨rfl, rfl⟩ := H;go_enter Tryz.func9, Tryz.ntmps9;go_wp2_with (first | ((with_reducible refine gate_dst (N:=1) rfl ?_); refine box_event ?hg (N:=1) ?hd (cs := #[.bool false, .string a0_1]) (t:=29) ?hr ?_; (case hd => rfl); (case hg => rfl); (case hr => first | (go_simp; done) | (go_simp; rfl)); intro gb300 hg w22 hbox hb; have n0_ := Aside0.mk (below_step (hA HB.out) hb); have n1_ := Aside0.mk (hbox); have n2_ := Aside0.mk ((by rw [hg]; exact (below_size (hA HB.out)) : w.heap.size ≤ gb300)); have n3_ := Aside0.mk ((by rw [hg]; exact (below_size (hA HB.out)) : w.heap.size ≤ gb300)); clear HB; have HB := n0_; have BK300 := n1_; have GW300 := n2_; have GE300 := n3_; clear n0_ n1_ n2_ n3_; clear hb hbox hg; have hcz23_0 := bC BK300.out 0 rfl; have hcz23_1 := bC BK300.out 1 rfl; have hfz23_0 := blk_frozen BK300.out 0; have hfz23_1 := blk_frozen BK300.out 1) | ((with_reducible refine gate_callee (f:=17) rfl ?_); refine goesL_ (some 17) rfl rfl Tryz.func17 (by kernel_rfl) rfl #[.string (((⟨#[34]⟩ : ByteArray) ++ a0_1) ++ (⟨#[34]⟩ : ByteArray))] rfl (by (try simp only [List.map_toArray, List.map_cons, List.map_nil]); first | done | rfl | (simp only [List.length_drop, List.length_take]; rfl)) ?_; (with_reducible refine (etag_Parse.calls k (((⟨#[34]⟩ : ByteArray) ++ a0_1) ++ (⟨#[34]⟩ : ByteArray)) t305 t306 true _ A20.out).mono ?_); rintro e w24 ⟨rfl, hb⟩; refine ⟨_, rfl, ?_⟩; have n0_ := Aside0.mk (blk_below (bA BK300.out) hb); have n1_ := Aside0.mk (below_step (hA1 HB.out GE300.out) hb); clear BK300; clear HB; have BK300 := n0_; have HB := n1_; clear n0_ n1_; (try clear hb); (try clear hb2); (try clear hk); (try clear hi)) | ((with_reducible refine gate_dst (N:=5) rfl ?_); refine box_event ?hg (N:=5) ?hd (cs := #[.bool false, .string (⟨#[]⟩ : ByteArray)]) (t:=29) ?hr ?_; (case hd => rfl); (case hg => rfl); (case hr => first | (go_simp; done) | (go_simp; rfl)); intro gb308 hg w25 hbox hb; have n0_ := Aside0.mk (blk_below (bA BK300.out) hb); have n1_ := Aside0.mk (below_step (hA1 HB.out GE300.out) hb); have n2_ := Aside0.mk (hbox); have n3_ := Aside0.mk ((by rw [hg]; exact (below_size (hA1 HB.out GE300.out)) : w.heap.size ≤ gb308)); have n4_ := Aside0.mk ((by rw [hg]; exact (below_size (hA1 HB.out GE300.out)) : w.heap.size ≤ gb308)); have n5_ := Aside0.mk ((by rw [hg]; exact Nat.ne_of_lt (blk_lt (bA BK300.out)) : gb300 ≠ gb308)); have n6_ := Aside0.mk ((by rw [hg]; exact Nat.ne_of_gt (blk_lt (bA BK300.out)) : gb308 ≠ gb300)); clear BK300; clear HB; have BK300 := n0_; have HB := n1_; have BK308 := n2_; have GW308 := n3_; have GE308 := n4_; have NB300_308 := n5_; have NB308_300 := n6_; clear n0_ n1_ n2_ n3_ n4_ n5_ n6_; clear hb hbox hg; have hnb26 := NB308_300.out; have hnc26 := NB300_308.out; have hcz27_0 := bC BK308.out 0 rfl; have hcz27_1 := bC BK308.out 1 rfl; have hfz27_0 := blk_frozen BK308.out 0; have hfz27_1 := blk_frozen BK308.out 1));go_ret2;exact ⟨by first | rfl | (simp [errW_none, errW_some] <;> rfl) | (simp [*, errW_none, errW_some] <;> rfl), by repeat (first | (with_reducible first | exact HB.out | apply below_alloc | apply pw_below_drewN | apply below_drew1 | refine below_set ?_ GE300.out | refine below_set ?_ GE308.out) | exact HB.out)⟩
    ·replace c21 := Bool.eq_false_iff.mpr c21;subst c21;(have H1 : (some ((⟨#[]⟩ : ByteArray), false)) = some (r1, r2) := by rw [if_neg (show ¬ (false = true) by decide)] at H; exact H);clear H;have H := H1;clear H1;simp only [Option.some.injEq, Prod.mk.injEq] at H;obtain ⟨rfl, rfl⟩ := H;go_enter Tryz.func9, Tryz.ntmps9;go_wp2_with (first | ((with_reducible refine gate_dst (N:=1) rfl ?_); refine box_event ?hg (N:=1) ?hd (cs := #[.bool false, .string a0_1]) (t:=29) ?hr ?_; (case hd => rfl); (case hg => rfl); (case hr => first | (go_simp; done) | (go_simp; rfl)); intro gb300 hg w28 hbox hb; have n0_ := Aside0.mk (below_step (hA HB.out) hb); have n1_ := Aside0.mk (hbox); have n2_ := Aside0.mk ((by rw [hg]; exact (below_size (hA HB.out)) : w.heap.size ≤ gb300)); have n3_ := Aside0.mk ((by rw [hg]; exact (below_size (hA HB.out)) : w.heap.size ≤ gb300)); clear HB; have HB := n0_; have BK300 := n1_; have GW300 := n2_; have GE300 := n3_; clear n0_ n1_ n2_ n3_; clear hb hbox hg; have hcz29_0 := bC BK300.out 0 rfl; have hcz29_1 := bC BK300.out 1 rfl; have hfz29_0 := blk_frozen BK300.out 0; have hfz29_1 := blk_frozen BK300.out 1) | ((with_reducible refine gate_callee (f:=17) rfl ?_); refine goesL_ (some 17) rfl rfl Tryz.func17 (by kernel_rfl) rfl #[.string (((⟨#[34]⟩ : ByteArray) ++ a0_1) ++ (⟨#[34]⟩ : ByteArray))] rfl (by (try simp only [List.map_toArray, List.map_cons, List.map_nil]); first | done | rfl | (simp only [List.length_drop, List.length_take]; rfl)) ?_; (with_reducible refine (etag_Parse.calls k (((⟨#[34]⟩ : ByteArray) ++ a0_1) ++ (⟨#[34]⟩ : ByteArray)) t305 t306 false _ A20.out).mono ?_); rintro e w30 ⟨rfl, hb⟩; refine ⟨_, rfl, ?_⟩; have n0_ := Aside0.mk (blk_below (bA BK300.out) hb); have n1_ := Aside0.mk (below_step (hA1 HB.out GE300.out) hb); clear BK300; clear HB; have BK300 := n0_; have HB := n1_; clear n0_ n1_; (try clear hb); (try clear hb2); (try clear hk); (try clear hi)) | ((with_reducible refine gate_dst (N:=5) rfl ?_); refine box_event ?hg (N:=5) ?hd (cs := #[.bool false, .string (⟨#[]⟩ : ByteArray)]) (t:=29) ?hr ?_; (case hd => rfl); (case hg => rfl); (case hr => first | (go_simp; done) | (go_simp; rfl)); intro gb308 hg w31 hbox hb; have n0_ := Aside0.mk (blk_below (bA BK300.out) hb); have n1_ := Aside0.mk (below_step (hA1 HB.out GE300.out) hb); have n2_ := Aside0.mk (hbox); have n3_ := Aside0.mk ((by rw [hg]; exact (below_size (hA1 HB.out GE300.out)) : w.heap.size ≤ gb308)); have n4_ := Aside0.mk ((by rw [hg]; exact (below_size (hA1 HB.out GE300.out)) : w.heap.size ≤ gb308)); have n5_ := Aside0.mk ((by rw [hg]; exact Nat.ne_of_lt (blk_lt (bA BK300.out)) : gb300 ≠ gb308)); have n6_ := Aside0.mk ((by rw [hg]; exact Nat.ne_of_gt (blk_lt (bA BK300.out)) : gb308 ≠ gb300)); clear BK300; clear HB; have BK300 := n0_; have HB := n1_; have BK308 := n2_; have GW308 := n3_; have GE308 := n4_; have NB300_308 := n5_; have NB308_300 := n6_; clear n0_ n1_ n2_ n3_ n4_ n5_ n6_; clear hb hbox hg; have hnb32 := NB308_300.out; have hnc32 := NB300_308.out; have hcz33_0 := bC BK308.out 0 rfl; have hcz33_1 := bC BK308.out 1 rfl; have hfz33_0 := blk_frozen BK308.out 0; have hfz33_1 := blk_frozen BK308.out 1));go_ret2;exact ⟨by first | rfl | (simp [errW_none, errW_some] <;> rfl) | (simp [*, errW_none, errW_some] <;> rfl), by repeat (first | (with_reducible first | exact HB.out | apply below_alloc | apply pw_below_drewN | apply below_drew1 | refine below_set ?_ GE300.out | refine below_set ?_ GE308.out) | exact HB.out)⟩
  ·rw [if_neg c3] at H;exact absurd H (by simp)
 ·rw [if_neg c2] at H;exact absurd H (by simp)
/-! ### slices_CloneL: function 12 -/
/-! #### rows of lines, cell by cell -/
def flat (ys : List S33) : List Value := ys.flatMap fun x => [.string x.f0, .string x.f1]
theorem flat_cons (x : S33) (t : List S33) : flat (x :: t) = .string x.f0 :: .string x.f1 :: flat t := rfl
theorem flat_length : ∀ ys : List S33, (flat ys).length = ys.length * 2
 | [] => rfl
 | x :: t => by rw [flat_cons, List.length_cons, List.length_cons, flat_length t, List.length_cons]; omega
theorem flat_get : ∀ (ys : List S33) (j : Nat) (x : S33), ys[j]? = some x → (flat ys)[j * 2]? = some (.string x.f0) ∧ (flat ys)[j * 2 + 1]? = some (.string x.f1)
 | [], j, x, h => by simp at h
 | y :: t, 0, x, h => by
  rw [List.getElem?_cons_zero] at h;obtain rfl := Option.some.inj h;exact ⟨rfl, rfl⟩
 | y :: t, j + 1, x, h => by
  rw [List.getElem?_cons_succ] at h;have := flat_get t j x h;rw [flat_cons, show (j + 1) * 2 = j * 2 + 1 + 1 by omega, List.getElem?_cons_succ, List.getElem?_cons_succ, List.getElem?_cons_succ, List.getElem?_cons_succ];exact this
theorem flat_set : ∀ (ys : List S33) (i : Nat) (x : S33), flat (ys.set i x) = ((flat ys).set (i * 2) (.string x.f0)).set (i * 2 + 1) (.string x.f1)
 | [], i, x => by simp [flat]
 | y :: t, 0, x => rfl
 | y :: t, i + 1, x => by
  rw [List.set_cons_succ, flat_cons, flat_cons, flat_set t i x, show (i + 1) * 2 = i * 2 + 1 + 1 by omega, List.set_cons_succ, List.set_cons_succ, List.set_cons_succ, List.set_cons_succ]
theorem flat_take : ∀ (ys : List S33) (i : Nat), flat (ys.take i) = (flat ys).take (i * 2)
 | [], i => by simp [flat]
 | y :: t, 0 => by simp [flat]
 | y :: t, i + 1 => by
  rw [List.take_succ_cons, flat_cons, flat_cons, flat_take t i, show (i + 1) * 2 = i * 2 + 1 + 1 by omega, List.take_succ_cons, List.take_succ_cons]
theorem flat_reps : ∀ (ys : List S33) (w : World) (base : Nat) (ok : Nat → Prop), Reps (k33.M w base ok) 2 ys (flat ys) := by
 intro ys w base ok;refine ⟨flat_length ys, fun j x hx => ?_⟩;have h1 := flat_get ys j x hx;have hj := (List.getElem?_eq_some_iff.1 hx).1
 have e : ((flat ys).drop (j * 2)).take 2 = [.string x.f0, .string x.f1] := by
  apply List.ext_getElem?
  intro k;rw [List.getElem?_take]
  rcases k with _ | _ | k
  ·rw [if_pos (by omega), List.getElem?_drop]; exact h1.1
  ·rw [if_pos (by omega), List.getElem?_drop]; exact h1.2
  ·rw [if_neg (by omega)]; rfl
 rw [e];exact k33_mkM w base ok x
theorem flat_of_reps {w : World} {base : Nat} {ok : Nat → Prop} : ∀ (ys : List S33) (cs : List Value), Reps (k33.M w base ok) 2 ys cs → cs = flat ys := by
 intro ys cs h
 apply List.ext_getElem?
 intro m
 rcases Nat.lt_or_ge m (ys.length * 2) with hm | hm
 ·have hj : m / 2 < ys.length := by omega
  have hx := List.getElem?_eq_getElem hj;have h1 := k33_openM (h.2 _ _ hx);have h2 := flat_get ys _ _ hx
  have h3 : ∀ k, k < 2 → cs[m / 2 * 2 + k]? = [Value.string (ys[m / 2]).f0, .string (ys[m / 2]).f1][k]? := by
   intro k hk;rw [← h1, List.getElem?_take, if_pos hk, List.getElem?_drop]
  rcases Nat.mod_two_eq_zero_or_one m with h0 | h0
  ·(have e : m = m / 2 * 2 := by omega);rw [e, h2.1];have := h3 0 (by omega);rw [Nat.add_zero] at this;rw [this]; rfl
  ·(have e : m = m / 2 * 2 + 1 := by omega);rw [e, h2.2, h3 1 (by omega)]; rfl
 ·rw [List.getElem?_eq_none (by rw [h.1]; exact hm), List.getElem?_eq_none (by rw [flat_length]; exact hm)]
/-- The lines ys lie at the head of block B (room for cap). -/
def Row45 (w : World) (B cap : Nat) (ys : List S33) : Prop :=
 ∃ cur : Array Value, w.heap[B]? = some (.cells cur 33 (0, 0)) ∧ ys.length ≤ cap ∧ cap ≤ maxLen ∧ cur.size = cap * 2 ∧ cur.toList.take (ys.length * 2) = flat ys
theorem Row45.of_R {w : World} {base n c : Nat} {ok : Nat → Prop} {A : Option Addr} {ys : List S33} (h : Kd.R k33 33 w base ok (.slice A n c) ys) (hn : 0 < n) : ∃ B, A = some ⟨B, 0, none⟩ ∧ base ≤ B ∧ Row45 w B c ys := by
 obtain ⟨_, inner, ⟨h1, h2⟩, hr⟩ := h;have e := flat_of_reps ys inner hr;subst e
 rcases h2 with ⟨h2, _⟩ | ⟨g, cap, cur, h2, hg, hh, h3, h4, h5, h6⟩
 ·injection h2 with _ h2; omega
 ·injection h2 with a1 a2 a3
  subst a1; subst a3;exact ⟨g, rfl, hg, cur, hh, h3, h4, h5, h6⟩
theorem Row45.to_R {w : World} {B cap base : Nat} {ys : List S33} (h : Row45 w B cap ys) (hb : base ≤ B) : Kd.R k33 33 w base (fun _ => True) (.slice (some ⟨B, 0, none⟩) ys.length cap) ys := by
 obtain ⟨cur, h1, h2, h3, h4, h5⟩ := h;exact ⟨fun _ _ => trivial, flat ys, ⟨flat_length ys, .inr ⟨B, cap, cur, rfl, hb, h1, h2, h3, h4, h5⟩⟩, flat_reps ys _ _ _⟩
theorem Row45.lt {w : World} {B cap : Nat} {ys : List S33} (h : Row45 w B cap ys) : B < w.heap.size := by
 obtain ⟨cur, h1, _⟩ := h;exact (Array.getElem?_eq_some_iff.1 h1).1
theorem Row45.get {w : World} {B cap : Nat} {ys : List S33} (h : Row45 w B cap ys) {j : Nat} {x : S33} (hx : ys[j]? = some x) :
  w.cell? ⟨B, j * 2, none⟩ = some (.string x.f0) ∧ w.cell? ⟨B, j * 2 + 1, none⟩ = some (.string x.f1) := by
 obtain ⟨cur, h1, h2, h3, h4, h5⟩ := h;have hj := (List.getElem?_eq_some_iff.1 hx).1;have h6 := flat_get ys j x hx;rw [← h5] at h6;rw [List.getElem?_take, if_pos (by omega), List.getElem?_take, if_pos (by omega)] at h6;rw [blk_cell h1, blk_cell h1];simpa using h6
theorem Row45.free {w : World} {B cap : Nat} {ys : List S33} (h : Row45 w B cap ys) (j : Nat) : w.frozen? ⟨B, j, none⟩ = false := by
 obtain ⟨cur, h1, _⟩ := h;exact blk_frozen h1 j
theorem Row45.block {w w1 : World} {B cap : Nat} {ys : List S33} (h : Row45 w B cap ys) (e : w1.heap[B]? = w.heap[B]?) : Row45 w1 B cap ys := by
 obtain ⟨cur, h1, h2⟩ := h;exact ⟨cur, e.trans h1, h2⟩
theorem Row45.below {w w1 : World} {B cap : Nat} {ys : List S33} (h : Row45 w B cap ys) (hb : Below w.heap.size w w1) : Row45 w1 B cap ys := h.block (hb.block B h.lt)
theorem Row45.take {w : World} {B cap : Nat} {ys : List S33} (h : Row45 w B cap ys) (i : Nat) : Row45 w B cap (ys.take i) := by
 obtain ⟨cur, h1, h2, h3, h4, h5⟩ := h;refine ⟨cur, h1, by rw [List.length_take]; omega, h3, h4, ?_⟩;rw [flat_take, ← h5, List.take_take, List.length_take]
 congr 1; omega
theorem Row45.set {w : World} {B cap : Nat} {ys : List S33} (h : Row45 w B cap ys) (i : Nat) (x : S33) :
  Row45 ((w.setCell ⟨B, i * 2, none⟩ (.string x.f0)).setCell ⟨B, i * 2 + 1, none⟩ (.string x.f1)) B cap (ys.set i x) := by
 obtain ⟨cur, h1, h2, h3, h4, h5⟩ := h;refine ⟨_, blk_set (blk_set h1 (i * 2) (.string x.f0)) (i * 2 + 1) (.string x.f1), by rw [List.length_set]; exact h2, h3, by simpa using h4, ?_⟩;rw [flat_set, ← h5, List.length_set, Array.toList_setIfInBounds, Array.toList_setIfInBounds, List.take_set, List.take_set]
theorem setCells_blk : ∀ (vs : List Value) (o : Nat) (w : World) (B : Nat) (cur : Array Value) (t : TypeId), w.heap[B]? = some (.cells cur t (0, 0)) → ∃ cur', (w.setCells B o vs).heap[B]? = some (.cells cur' t (0, 0)) ∧ cur'.size = cur.size ∧ cur'.toList.take o = cur.toList.take o
 | [], o, w, B, cur, t, h => ⟨cur, h, rfl, rfl⟩
 | v :: vs, o, w, B, cur, t, h => by
  obtain ⟨cur', h1, h2, h3⟩ := setCells_blk vs (o + 1) (w.setCell ⟨B, o, none⟩ v) B _ t (blk_set h o v);refine ⟨cur', h1, by rw [h2]; simp, ?_⟩;have := congrArg (List.take o) h3;rw [List.take_take, List.take_take, Nat.min_eq_left (by omega), Array.toList_setIfInBounds] at this;rw [this, List.take_set, List.set_eq_of_length_le (by rw [List.length_take]; omega)]
theorem Row45.clear {w : World} {B cap : Nat} {ys : List S33} (h : Row45 w B cap ys) (i : Nat) (vs : List Value) (hi : i ≤ ys.length) : Row45 (w.setCells B (i * 2) vs) B cap (ys.take i) := by
 obtain ⟨cur, h1, h2, h3, h4, h5⟩ := h.take i;obtain ⟨cur', e1, e2, e3⟩ := setCells_blk vs (i * 2) w B cur 33 h1;refine ⟨cur', e1, h2, h3, by rw [e2, h4], ?_⟩;rw [List.length_take, Nat.min_eq_left hi] at h5 ⊢;rw [e3, h5]
theorem below_setCells {b : Nat} {a : World} : ∀ (vs : List Value) (o : Nat) (w : World) (B : Nat), Below b a w → b ≤ B → Below b a (w.setCells B o vs)
 | [], o, w, B, h, hb => h
 | v :: vs, o, w, B, h, hb => below_setCells vs (o + 1) (w.setCell ⟨B, o, none⟩ v) B (h.setCell hb v) hb
set_option maxHeartbeats 8000000 in
set_option maxRecDepth 100000 in
theorem slices_Clone.own (A : Option Addr) (c : Nat) (l : List S33) (w : World) (hC : Kd.C k33 w A l.length l) (hc : l.length ≤ c) (hl : l.length < 4398046511104) :
  Calls Tryz.prog 12 #[.slice A l.length c] w fun e w' => ∃ v, e = .returned v ∧ Kd.R k33 33 w' w.heap.size (fun _ => True) v l ∧ Below w.heap.size w w' := by
 have q22 : ∀ (w : World) (a : Option Addr) (n c n' c' : Nat), (binOp .eql 22 (.slice a n c) (.slice none n' c')).run Tryz.prog w = .ok (.bool a.isNone) w := fun w a n c n' c' => Lib.run_eql_slice_nil w _ _ a n c n' c' Tryz.underlying22
 cases A with
 | none =>
  have h0 : l = [] := by
   rcases Nat.eq_zero_or_pos l.length with h | h
   ·exact List.eq_nil_of_length_eq_zero h
   ·obtain ⟨ad, e, _⟩ := hC.2.2 h; cases e
  subst h0;go_enter Tryz.func12, Tryz.ntmps12;go_wp2;go_ret;exact ⟨_, rfl, Kd.R_nil _ _ _ _ _, Below.refl _ _⟩
 | some ad =>
  have HR0 := Aside0.mk hC;have HC0 := Aside0.mk hc;clear hC hc;have HB := Aside0.mk (Below.refl w.heap.size w);go_enter Tryz.func12, Tryz.ntmps12;go_wp2_with (first | ((with_reducible refine gate_dst (N:=5) rfl ?_); refine Kd.R_lit k33 _ 33 ?hg (N:=5) ?hd (xs := ([] : List (S33))) (inner := []) (ok := fun _ => True) (okp := fun _ => True) ?hr ?hp (fun _ hk => hk) trivial (Below.refl _ _) (Nat.le_refl _) (by simp) ?_; (case hd => rfl); (case hg => rfl); (case hr => first | (go_simp; done) | (go_simp; rfl)); (case hp => exact (Reps.none _ _)); intro v214 w3 ho4 hb hg_ hnew_; clear hg_ hnew_; (first | skip | (simp only [Int.reduceToNat] at ho4)); have n0_ := Aside0.mk (Kd.R_lower ho4 (below_size (hA HB.out))); have n1_ := Aside0.mk (below_step (hA HB.out) hb); clear HB; have HO215 := n0_; have HB := n1_; clear n0_ n1_; clear hb ho4) | ((with_reducible refine gate_builtin (b:=.append) (xs := #[.tmp 5, .tmp 6]) rfl ?_); at_builtin; refine Kd.R_append_rows k33 (w0 := w) w.heap.size rfl (.tmp 5) (.tmp 6) 22 33 (.agg #[(.string ⟨#[]⟩), (.string ⟨#[]⟩)]) 32 rfl Tryz.underlying22 info33 rfl (by decide) (by omega) v214 [] l _ _ _ (fun _ => True) (fun _ => False) rfl rfl ?aO ?aR (fun _ _ h => h) (fun _ h => h.elim) ?aF ?aB ?aS ?aL ?_; (case aR => repeat (first | exact (Kd.C_below HR0.out HB.out) | (with_reducible refine Kd.C_alloc ?_ _) | (with_reducible refine Kd.C_drewN ?_ _) | (with_reducible refine Kd.C_drew ?_))); (case aB => exact (hA HB.out)); (case aF => exact (fun _ _ => trivial)); (case aO => exact (rA HO215.out)); (case aS => exact (below_size (hA HB.out))); (case aL => simp only [List.length_nil]; omega); intro v217 w5 ho hb hg hat; have n0_ := Aside0.mk (hb); have n1_ := Aside0.mk (ho); clear HB; clear HO215; have HB := n0_; have HO218 := n1_; clear n0_ n1_; clear ho hb hg hat));go_ret;exact ⟨_, rfl, HO218.out, HB.out⟩
/-- slices.Clone of lines. -/
def slices_CloneL.f (l0 : List S33) : Option (List S33) := if l0.length < 4398046511104 then some l0 else none
theorem slices_CloneL.calls (A0 : Option Addr) (c0 : Nat) (l0 : List S33) (r : List S33) (w : World) (hr0 : Kd.C k33 w A0 l0.length l0) (hc0 : l0.length ≤ c0) (h : slices_CloneL.f l0 = some r) :
  Calls Tryz.prog 12 #[.slice A0 l0.length c0] w fun e w' => ∃ v0_ : Value, e = .returned v0_ ∧ Kd.R k33 33 w' w.heap.size (fun _ => True) v0_ r ∧ Below w.heap.size w w' := by
 unfold slices_CloneL.f at h
 by_cases hl : l0.length < 4398046511104
 ·rw [if_pos hl] at h;obtain rfl := Option.some.inj h;exact slices_Clone.own A0 c0 l0 w hr0 hc0 hl
 ·rw [if_neg hl] at h; cases h
/-! ### slices_Contains_string_string: function 13 -/
def slices_Contains_string_string.f (k : Nat) (l0 : List ByteArray) (a1 : ByteArray) : Option (Bool) := (slices_Index_string_string.f k l0 a1).bind fun t309 => (some (decide (t309 ≥ 0)))
theorem slices_Contains_string_string.mono : ∀ a0 a1 k, LeO (slices_Contains_string_string.f k a0 a1) (slices_Contains_string_string.f (k + 1) a0 a1) := by
 intro a0 a1 k
 unfold slices_Contains_string_string.f
 repeat' first
   | (with_reducible exact slices_Index_string_string.mono _ _ _)
   | (with_reducible exact LeO.refl _)
   | (with_reducible exact LeO.none _)
   | (with_reducible refine LeO.ite ?_ ?_)
   | (with_reducible refine LeO.bind ?_ (fun _ => ?_))
   | exact slices_Index_string_string.mono _ _ _
   | exact LeO.none _
   | refine LeO.ite ?_ ?_
   | refine LeO.bind ?_ (fun _ => ?_)
set_option maxHeartbeats 2000000 in
set_option maxRecDepth 100000 in
theorem slices_Contains_string_string.calls (k : Nat) (A0 : Option Addr) (c0 : Nat) (l0 : List ByteArray) (a1 : ByteArray) (r : Bool) (w : World) (hr0 : Kd.C Kd.string w A0 l0.length l0) (hc0 : l0.length ≤ c0) (h : slices_Contains_string_string.f k l0 a1 = some r) :
  Calls Tryz.prog 13 #[.slice A0 l0.length c0, .string a1] w fun e w' => e = .returned (.bool r) ∧ Drawn0 w w' := by
 have HR0 := Aside0.mk hr0;have HC0 := Aside0.mk hc0;clear hr0 hc0;have H : ((slices_Index_string_string.f k l0 a1).bind fun t309 => (some (decide (t309 ≥ 0)))) = some r := h;clear h;replace H := Option.bind_eq_some_iff.mp H;obtain ⟨t309, A30, H⟩ := H;replace H : (some (decide (t309 ≥ 0))) = some r := H;have A3 := Aside0.mk A30;clear A30;obtain rfl := Option.some.inj H;go_enter Tryz.func13, Tryz.ntmps13;go_wp2_with (first | ((with_reducible refine gate_callee (f:=25) rfl ?_); refine goesL_ (some 7) rfl rfl Tryz.func25 (by kernel_rfl) rfl #[.slice A0 l0.length c0, .string a1] rfl (by (try simp only [List.map_toArray, List.map_cons, List.map_nil]); first | done | rfl | (simp only [List.length_drop, List.length_take]; rfl)) ?_; (with_reducible refine (slices_Index_string_string.calls k _ _ l0 a1 t309 _ ?side1 ?side2 A3.out).mono ?_); (case side1 => repeat (first | exact HR0.out | (with_reducible refine Kd.C_alloc ?_ _) | (with_reducible refine Kd.C_drewN ?_ _) | (with_reducible refine Kd.C_drew ?_))); (case side2 => exact HC0.out); rintro e w' ⟨rfl, ⟨nd, rfl⟩⟩; refine ⟨_, rfl, ?_⟩));go_ret;exact ⟨by first | rfl | (simp; done) | (simp [*]; done), by repeat (first | exact Drawn0.refl _ | apply Drawn0.step)⟩
/-! ### head_Value: function 26 -/
def head_Value.l0 : Nat → ByteArray → Int → Int → Option (Bool)
 | 0, _, _, _ => none
 | k + 1, x0, x6, x7 => if x7 < x6 then (if 0 ≤ x7 then (if x7 < (x0.size : Int) then (if (bt x0 x7) < 32 then (if (bt x0 x7) = 9 then (if (bt x0 x7) = 127 then (some false) else (head_Value.l0 k x0 x6 (wrap64 (x7 + 1)))) else (some false)) else (if (bt x0 x7) = 127 then (some false) else (head_Value.l0 k x0 x6 (wrap64 (x7 + 1))))) else (none)) else (none)) else (if (x0.size : Int) ≤ 4000 then ((head_Trim.f x0).bind fun t310 => (some (t310.toList == x0.toList))) else (some false))
def head_Value.f (k : Nat) (a0 : ByteArray) : Option (Bool) := head_Value.l0 k a0 (a0.size : Int) 0
theorem head_Value.mono_l : ∀ k, (∀ y0 y1 y2, LeO (head_Value.l0 k y0 y1 y2) (head_Value.l0 (k + 1) y0 y1 y2))
 | 0 => fun _ _ _ r h => by simp [head_Value.l0] at h
 | k + 1 => by
  have ih0 := head_Value.mono_l k
  ·intro y0 y1 y2
   unfold head_Value.l0
   repeat' first
   | (with_reducible exact ih0 _ _ _)
   | (with_reducible exact LeO.refl _)
   | (with_reducible exact LeO.none _)
   | (with_reducible refine LeO.ite ?_ ?_)
   | (with_reducible refine LeO.bind ?_ (fun _ => ?_))
   | exact ih0 _ _ _
   | exact LeO.none _
   | refine LeO.ite ?_ ?_
   | refine LeO.bind ?_ (fun _ => ?_)
theorem head_Value.mono : ∀ a0 k, LeO (head_Value.f k a0) (head_Value.f (k + 1) a0) := by
 intro a0 k;have ih0 := head_Value.mono_l k
 unfold head_Value.f
 repeat' first
   | (with_reducible exact ih0 _ _ _)
   | (with_reducible exact LeO.refl _)
   | (with_reducible exact LeO.none _)
   | (with_reducible refine LeO.ite ?_ ?_)
   | (with_reducible refine LeO.bind ?_ (fun _ => ?_))
   | exact ih0 _ _ _
   | exact LeO.none _
   | refine LeO.ite ?_ ?_
   | refine LeO.bind ?_ (fun _ => ?_)
set_option maxHeartbeats 2000000 in
set_option maxRecDepth 100000 in
theorem head_Value.calls (k : Nat) (a0 : ByteArray) (r : Bool) (w : World) (h : head_Value.f k a0 = some r) :
  Calls Tryz.prog 26 #[.string a0] w fun e w' => e = .returned (.bool r) ∧ Below w.heap.size w w' := by
 have HB := Aside0.mk (Below.refl w.heap.size w);have H : (head_Value.l0 k a0 (a0.size : Int) 0) = some r := h;clear h;have H' := Aside0.mk H;clear H;go_enter Tryz.func26, Tryz.ntmps26;go_wp2;go_loopg [7] k (fun kq v7 w' => ∃ (x7_1 : Int), v7 = .int .i64 x7_1 ∧ Aside0 (head_Value.l0 kq a0 (a0.size : Int) x7_1 = some r) ∧ Aside0 (kq ≤ k) ∧ Aside0 (Below w.heap.size w w'))
 case atStart => exact ⟨(0), (by first | rfl | (simp; done) | (simp [*]; done)), H', ⟨Nat.le_refl _⟩, ⟨hA HB.out⟩⟩
 case round =>
  clear H';obtain ⟨x7_1, rfl, HA, HK1, HB⟩ := hrel
  cases gk with
  | zero => exact absurd HA.out (by simp [head_Value.l0])
  | succ k1 =>
   have H := HA.out;clear HA;simp only [head_Value.l0] at H
   by_cases c2 : x7_1 < (a0.size : Int)
   ·rw [if_pos c2] at H
    have c2b0 : decide (x7_1 < (a0.size : Int)) = true := decide_eq_true c2;clear c2
    by_cases c3 : 0 ≤ x7_1
    ·rw [if_pos c3] at H
     have c3b0 : decide (0 ≤ x7_1) = true := decide_eq_true c3;clear c3
     by_cases c4 : x7_1 < (a0.size : Int)
     ·rw [if_pos c4] at H
      have c4b0 : decide (x7_1 < (a0.size : Int)) = true := decide_eq_true c4;clear c4
      by_cases c6 : (bt a0 x7_1) < 32
      ·rw [if_pos c6] at H
       have c6b0 : decide ((bt a0 x7_1) < 32) = true := decide_eq_true c6;clear c6
       by_cases c7 : (bt a0 x7_1) = 9
       ·rw [if_pos c7] at H
        have c7b0 : ((bt a0 x7_1) == 9) = true := beq_iff_eq.mpr c7;have c7b1 : ((bt a0 x7_1) != 9) = false := bne_eq_false_iff_eq.mpr c7;clear c7
        by_cases c8 : (bt a0 x7_1) = 127
        ·rw [if_pos c8] at H;have c8b0 : ((bt a0 x7_1) == 127) = true := beq_iff_eq.mpr c8;have c8b1 : ((bt a0 x7_1) != 127) = false := bne_eq_false_iff_eq.mpr c8;clear c8;obtain rfl := Option.some.inj H;have p5 : 0 ≤ (x7_1 : Int) := of_decide_eq_true (by first | (with_reducible assumption) | assumption);have q5 : x7_1 < (a0.size : Int) := of_decide_eq_true (by first | (with_reducible assumption) | assumption);have hx5 := bt_at a0 x7_1;replace p5 := eq_true p5;replace q5 := eq_true q5;go_wp2;go_ret;exact ⟨by first | rfl | (simp [errW_none, errW_some] <;> rfl) | (simp [*, errW_none, errW_some] <;> rfl), by repeat (first | (with_reducible first | exact HB.out | apply below_alloc | apply pw_below_drewN | apply below_drew1) | exact HB.out)⟩
        ·rw [if_neg c8] at H
         have c8b0 : ((bt a0 x7_1) == 127) = false := beq_eq_false_iff_ne.mpr c8;have c8b1 : ((bt a0 x7_1) != 127) = true := bne_iff_ne.mpr c8;have H' := Aside0.mk H;clear H;have p5 : 0 ≤ (x7_1 : Int) := of_decide_eq_true (by first | (with_reducible assumption) | assumption);have q5 : x7_1 < (a0.size : Int) := of_decide_eq_true (by first | (with_reducible assumption) | assumption);have hx5 := bt_at a0 x7_1;replace p5 := eq_true p5;replace q5 := eq_true q5;go_wp2;go_roundg k1
         case measure => have := HK1.out; omega
         case rel => exact ⟨(wrap64 (x7_1 + 1)), (by first | rfl | (simp; done) | (simp [*]; done)), H', ⟨by have := HK1.out; omega⟩, ⟨hA HB.out⟩⟩
       ·rw [if_neg c7] at H;have c7b0 : ((bt a0 x7_1) == 9) = false := beq_eq_false_iff_ne.mpr c7;have c7b1 : ((bt a0 x7_1) != 9) = true := bne_iff_ne.mpr c7;obtain rfl := Option.some.inj H;have p5 : 0 ≤ (x7_1 : Int) := of_decide_eq_true (by first | (with_reducible assumption) | assumption);have q5 : x7_1 < (a0.size : Int) := of_decide_eq_true (by first | (with_reducible assumption) | assumption);have hx5 := bt_at a0 x7_1;replace p5 := eq_true p5;replace q5 := eq_true q5;go_wp2;go_ret;exact ⟨by first | rfl | (simp [errW_none, errW_some] <;> rfl) | (simp [*, errW_none, errW_some] <;> rfl), by repeat (first | (with_reducible first | exact HB.out | apply below_alloc | apply pw_below_drewN | apply below_drew1) | exact HB.out)⟩
      ·rw [if_neg c6] at H
       have c6b0 : decide ((bt a0 x7_1) < 32) = false := decide_eq_false c6;clear c6
       by_cases c9 : (bt a0 x7_1) = 127
       ·rw [if_pos c9] at H;have c9b0 : ((bt a0 x7_1) == 127) = true := beq_iff_eq.mpr c9;have c9b1 : ((bt a0 x7_1) != 127) = false := bne_eq_false_iff_eq.mpr c9;clear c9;obtain rfl := Option.some.inj H;have p5 : 0 ≤ (x7_1 : Int) := of_decide_eq_true (by first | (with_reducible assumption) | assumption);have q5 : x7_1 < (a0.size : Int) := of_decide_eq_true (by first | (with_reducible assumption) | assumption);have hx5 := bt_at a0 x7_1;replace p5 := eq_true p5;replace q5 := eq_true q5;go_wp2;go_ret;exact ⟨by first | rfl | (simp [errW_none, errW_some] <;> rfl) | (simp [*, errW_none, errW_some] <;> rfl), by repeat (first | (with_reducible first | exact HB.out | apply below_alloc | apply pw_below_drewN | apply below_drew1) | exact HB.out)⟩
       ·rw [if_neg c9] at H
        have c9b0 : ((bt a0 x7_1) == 127) = false := beq_eq_false_iff_ne.mpr c9;have c9b1 : ((bt a0 x7_1) != 127) = true := bne_iff_ne.mpr c9;have H' := Aside0.mk H;clear H;have p5 : 0 ≤ (x7_1 : Int) := of_decide_eq_true (by first | (with_reducible assumption) | assumption);have q5 : x7_1 < (a0.size : Int) := of_decide_eq_true (by first | (with_reducible assumption) | assumption);have hx5 := bt_at a0 x7_1;replace p5 := eq_true p5;replace q5 := eq_true q5;go_wp2;go_roundg k1
        case measure => have := HK1.out; omega
        case rel => exact ⟨(wrap64 (x7_1 + 1)), (by first | rfl | (simp; done) | (simp [*]; done)), H', ⟨by have := HK1.out; omega⟩, ⟨hA HB.out⟩⟩
     ·rw [if_neg c4] at H;exact absurd H (by simp)
    ·rw [if_neg c3] at H;exact absurd H (by simp)
   ·rw [if_neg c2] at H
    have c2b0 : decide (x7_1 < (a0.size : Int)) = false := decide_eq_false c2;clear c2
    by_cases c10 : (a0.size : Int) ≤ 4000
    ·rw [if_pos c10] at H;have c10b0 : decide ((a0.size : Int) ≤ 4000) = true := decide_eq_true c10;have c10b1 : decide (a0.size ≤ 4000) = true := decide_eq_true (by omega);clear c10;replace H := Option.bind_eq_some_iff.mp H;obtain ⟨t310, A110, H⟩ := H;replace H : (some (t310.toList == a0.toList)) = some r := H;have A11 := Aside0.mk A110;clear A110;obtain rfl := Option.some.inj H;go_wp2_with (first | (go_at_call 43; (with_reducible refine (head_Trim.calls a0 t310 _ A11.out).mono ?_); rintro e w12 ⟨rfl, hb⟩; have n0_ := Aside0.mk (below_step (hA HB.out) hb); clear HB; have HB := n0_; clear n0_; (try clear hb); (try clear hb2); (try clear hk); (try clear hi)));go_ret;exact ⟨by first | rfl | (simp [errW_none, errW_some] <;> rfl) | (simp [*, errW_none, errW_some] <;> rfl), by repeat (first | (with_reducible first | exact HB.out | apply below_alloc | apply pw_below_drewN | apply below_drew1) | exact HB.out)⟩
    ·rw [if_neg c10] at H;have c10b0 : decide ((a0.size : Int) ≤ 4000) = false := decide_eq_false c10;have c10b1 : decide (a0.size ≤ 4000) = false := decide_eq_false (by omega);clear c10;obtain rfl := Option.some.inj H;go_wp2;go_ret;exact ⟨by first | rfl | (simp [errW_none, errW_some] <;> rfl) | (simp [*, errW_none, errW_some] <;> rfl), by repeat (first | (with_reducible first | exact HB.out | apply below_alloc | apply pw_below_drewN | apply below_drew1) | exact HB.out)⟩
/-! ### use_lay: function 14 -/
def use_lay.f (k : Nat) (l0 : List (S33)) (a1 : ByteArray) (a2 : ByteArray) : Option ((List (S33))) := if (l0.length : Int) ≥ 64 then (some l0) else ((head_Value.f k a2).bind fun t311 => (if t311 = true then (if l0.length < 4398046511104 then (some (l0 ++ [(⟨a1, a2⟩ : S33)])) else (none)) else (some l0)))
theorem use_lay.mono : ∀ a0 a1 a2 k, LeO (use_lay.f k a0 a1 a2) (use_lay.f (k + 1) a0 a1 a2) := by
 intro a0 a1 a2 k
 unfold use_lay.f
 repeat' first
   | (with_reducible exact head_Value.mono _ _)
   | (with_reducible exact LeO.refl _)
   | (with_reducible exact LeO.none _)
   | (with_reducible refine LeO.ite ?_ ?_)
   | (with_reducible refine LeO.bind ?_ (fun _ => ?_))
   | exact head_Value.mono _ _
   | exact LeO.none _
   | refine LeO.ite ?_ ?_
   | refine LeO.bind ?_ (fun _ => ?_)
set_option maxHeartbeats 2000000 in
set_option maxRecDepth 100000 in
theorem use_lay.calls (k : Nat) (P0_ : Nat → Prop) (u9000_ : Value) (l0 : List (S33)) (a1 : ByteArray) (a2 : ByteArray) (r : List (S33)) (w0 w : World) (hB : Below w0.heap.size w0 w) (ho0 : Kd.R k33 33 w w0.heap.size P0_ u9000_ l0) (h : use_lay.f k l0 a1 a2 = some r) :
  Calls Tryz.prog 14 #[u9000_, .string a1, .string a2] w fun e w' => ∃ v0_ : Value, e = .returned (v0_) ∧ Kd.R k33 33 w' w0.heap.size (fun k_ => (P0_ k_ ∨ w.heap.size ≤ k_)) v0_ r ∧ Below w0.heap.size w0 w' ∧ Kept w w' (fun k_ => P0_ k_) := by
 have hu33 := Tryz.underlying33;have HO0 := Aside0.mk (show Kd.R k33 33 w w0.heap.size (fun k_ => (P0_ k_ ∨ w.heap.size ≤ k_)) u9000_ l0 from Kd.R_mono ho0 (fun k_ hk => (.inl hk)));have HK := Aside0.mk (Kept.refl w (fun k_ => P0_ k_));have HW0 := Aside0.mk hB.size;have HB := Aside0.mk hB;clear hB;have H : (if (l0.length : Int) ≥ 64 then (some l0) else ((head_Value.f k a2).bind fun t311 => (if t311 = true then (if l0.length < 4398046511104 then (some (l0 ++ [(⟨a1, a2⟩ : S33)])) else (none)) else (some l0)))) = some r := h;clear h
 by_cases c4 : (l0.length : Int) ≥ 64
 ·rw [if_pos c4] at H;have c4b0 : decide (64 ≤ (l0.length : Int)) = true := decide_eq_true c4;have c4b1 : decide (64 ≤ l0.length) = true := decide_eq_true (by omega);clear c4;obtain rfl := Option.some.inj H;obtain ⟨Ao5, co5, eo5⟩ := Kd.R_slice HO0.out;subst eo5;go_enter Tryz.func14, Tryz.ntmps14;go_wp2;go_ret;exact ⟨_, by first | rfl | (simp [errW_none, errW_some] <;> rfl) | (simp [*, errW_none, errW_some] <;> rfl), by (with_reducible repeat (first | apply Kd.R_alloc | apply Kd.R_drewN | apply Kd.R_drew)); exact HO0.out, by repeat (first | (with_reducible first | exact HB.out | apply below_alloc | apply pw_below_drewN | apply below_drew1) | exact HB.out), by repeat (first | (with_reducible first | exact HK.out | apply Kept.alloc | apply Kept.drewN | apply Kept.drew) | exact HK.out)⟩
 ·rw [if_neg c4] at H
  have c4b0 : decide (64 ≤ (l0.length : Int)) = false := decide_eq_false c4;have c4b1 : decide (64 ≤ l0.length) = false := decide_eq_false (by omega);clear c4;replace H := Option.bind_eq_some_iff.mp H;obtain ⟨t311, A60, H⟩ := H;replace H : (if t311 = true then (if l0.length < 4398046511104 then (some (l0 ++ [(⟨a1, a2⟩ : S33)])) else (none)) else (some l0)) = some r := H;have A6 := Aside0.mk A60;clear A60
  by_cases c7 : t311 = true
  ·subst c7
   (have H1 : (if l0.length < 4398046511104 then (some (l0 ++ [(⟨a1, a2⟩ : S33)])) else (none)) = some r := by rw [if_pos rfl] at H; exact H);clear H;have H := H1;clear H1
   by_cases c8 : l0.length < 4398046511104
   ·rw [if_pos c8] at H;have LMc8 := Aside0.mk c8;clear c8;obtain ⟨y312, hy312⟩ : ∃ y_ : List (S33), y_ = (l0 ++ [(⟨a1, a2⟩ : S33)]) := ⟨_, rfl⟩;(replace H : (some y312) = some r := by first | (rw [hy312]; with_reducible exact H) | (have H2_ := (Option.bind_some _ _).symm.trans H; rw [hy312]; with_reducible exact H2_) | (have H2_ := (Option.bind_some _ _).symm.trans H; with_reducible exact H2_) | with_reducible exact H | (rw [hy312]; exact H) | exact H);have Ny312 := Aside0.mk hy312;clear hy312;obtain rfl := Option.some.inj H;obtain ⟨Ao9, co9, eo9⟩ := Kd.R_slice HO0.out;subst eo9;go_enter Tryz.func14, Tryz.ntmps14;go_wp2_with (first | (go_at_call 26; (with_reducible refine (head_Value.calls k a2 true _ A6.out).mono ?_); rintro e w10 ⟨rfl, hb⟩; have n0_ := Aside0.mk (Kd.R_below (rA HO0.out) hb); have n1_ := Aside0.mk (Kept.below (S:=(fun k_ => P0_ k_)) (by repeat (first | (with_reducible first | exact HK.out | apply Kept.alloc | apply Kept.drewN | apply Kept.drew) | exact HK.out)) hb); have n2_ := Aside0.mk (below_step (hA HB.out) hb); clear HO0; clear HK; clear HB; have HO0 := n0_; have HK := n1_; have HB := n2_; clear n0_ n1_ n2_; (try clear hb); (try clear hb2); (try clear hk); (try clear hi)) | ((with_reducible refine gate_builtin (b:=.append) (xs := #[.tmp 16, .tmp 20]) rfl ?_); at_builtin; refine Kd.R_append k33 (w0 := w0) w0.heap.size rfl (.tmp 16) (.tmp 20) 22 33 (.agg #[(.string ⟨#[]⟩), (.string ⟨#[]⟩)]) 32 rfl Tryz.underlying22 info33 rfl (by decide) (by omega) (.slice Ao9 l0.length co9) l0 (⟨a1, a2⟩ : S33) [.string a1, .string a2] (fun k_ => (P0_ k_ ∨ w.heap.size ≤ k_)) (fun _ => False) rfl rfl ?aP (fun _ hk => hk.elim) ?aF ?aO ?aB ?aS ?aL ?_; (case aP => exact k33_mkM _ _ _ (⟨a1, a2⟩ : S33)); (case aB => exact (hA HB.out)); (case aF => exact (fun k_ hk => (.inr (Nat.le_trans (by first | exact HK.out.1 | exact (show Kept w _ (fun k_ => P0_ k_) from by repeat (first | (with_reducible first | exact HK.out | apply Kept.alloc | apply Kept.drewN | apply Kept.drew) | exact HK.out)).1) hk)))); (case aO => exact (rA HO0.out)); (case aS => exact (below_size (hA HB.out))); (case aL => have := LMc8.out; omega); intro v313 w11 ho hb hg hat; rw [← Ny312.out] at ho; have n0_ := Aside0.mk (hb); have n1_ := Aside0.mk (Kept.of_grown (S:=(fun k_ => P0_ k_)) hg (by repeat (first | (with_reducible first | exact HK.out | apply Kept.alloc | apply Kept.drewN | apply Kept.drew) | exact HK.out)) (fun k_ e_ => (HO0.out.1 k_ e_))); have n2_ := Aside0.mk (ho); clear HB; clear HK; clear HO0; have HB := n0_; have HK := n1_; have HO314 := n2_; clear n0_ n1_ n2_; clear ho hb hg hat));go_ret;exact ⟨_, by first | rfl | (simp [errW_none, errW_some] <;> rfl) | (simp [*, errW_none, errW_some] <;> rfl), by (with_reducible repeat (first | apply Kd.R_alloc | apply Kd.R_drewN | apply Kd.R_drew)); exact HO314.out, by repeat (first | (with_reducible first | exact HB.out | apply below_alloc | apply pw_below_drewN | apply below_drew1) | exact HB.out), by repeat (first | (with_reducible first | exact HK.out | apply Kept.alloc | apply Kept.drewN | apply Kept.drew) | exact HK.out)⟩
   ·rw [if_neg c8] at H;exact absurd H (by simp)
  ·replace c7 := Bool.eq_false_iff.mpr c7;subst c7;(have H1 : (some l0) = some r := by rw [if_neg (show ¬ (false = true) by decide)] at H; exact H);clear H;have H := H1;clear H1;obtain rfl := Option.some.inj H;obtain ⟨Ao12, co12, eo12⟩ := Kd.R_slice HO0.out;subst eo12;go_enter Tryz.func14, Tryz.ntmps14;go_wp2_with (first | (go_at_call 26; (with_reducible refine (head_Value.calls k a2 false _ A6.out).mono ?_); rintro e w13 ⟨rfl, hb⟩; have n0_ := Aside0.mk (Kd.R_below (rA HO0.out) hb); have n1_ := Aside0.mk (Kept.below (S:=(fun k_ => P0_ k_)) (by repeat (first | (with_reducible first | exact HK.out | apply Kept.alloc | apply Kept.drewN | apply Kept.drew) | exact HK.out)) hb); have n2_ := Aside0.mk (below_step (hA HB.out) hb); clear HO0; clear HK; clear HB; have HO0 := n0_; have HK := n1_; have HB := n2_; clear n0_ n1_ n2_; (try clear hb); (try clear hb2); (try clear hk); (try clear hi)));go_ret;exact ⟨_, by first | rfl | (simp [errW_none, errW_some] <;> rfl) | (simp [*, errW_none, errW_some] <;> rfl), by (with_reducible repeat (first | apply Kd.R_alloc | apply Kd.R_drewN | apply Kd.R_drew)); exact HO0.out, by repeat (first | (with_reducible first | exact HB.out | apply below_alloc | apply pw_below_drewN | apply below_drew1) | exact HB.out), by repeat (first | (with_reducible first | exact HK.out | apply Kept.alloc | apply Kept.drewN | apply Kept.drew) | exact HK.out)⟩
/-! ### strings_Join: function 15 -/
theorem spot_none {w : World} {a : Addr} {v : Value} (h : w.cell? a = some v) : a.spot = none := by
 unfold World.cell? at h
 split at h
 ·split at h
  ·cases h
  ·rename_i hs
   cases hq : a.spot with
   | none => rfl
   | some x => rw [hq] at hs; simp at hs
 ·cases h
def strings_Join.f (l0 : List ByteArray) (a1 : ByteArray) : Option (ByteArray) :=
 if l0.length ≤ 140737488355328 ∧ (Lib.join (l0.map (·.data.toList)) a1.data.toList).length ≤ 140737488355328 then some ⟨(Lib.join (l0.map (·.data.toList)) a1.data.toList).toArray⟩ else none
theorem strings_Join.calls (A0 : Option Addr) (c0 : Nat) (l0 : List ByteArray) (a1 : ByteArray) (r : ByteArray) (w : World) (hr0 : Kd.C Kd.string w A0 l0.length l0) (hc0 : l0.length ≤ c0) (h : strings_Join.f l0 a1 = some r) :
  Calls Tryz.prog 15 #[.slice A0 l0.length c0, .string a1] w fun e w' => e = .returned (.string r) ∧ Below w.heap.size w w' := by
 unfold strings_Join.f at h
 split at h
 ·rename_i h1
  obtain ⟨h1, h2⟩ := h1;obtain rfl := Option.some.inj h
  cases l0 with
  | nil => exact (Tryz.strings_Join_none A0 c0 a1 w).mono fun e w' ⟨he, hw⟩ => ⟨he, hw ▸ Below.refl _ _⟩
  | cons x t =>
   obtain ⟨ad, rfl, hc⟩ := hr0.2.2 (by simp)
   have hcell : ∀ (j : Nat) (y : ByteArray), (x :: t)[j]? = some y → w.cell? (ad.add j) = some (.string y) := by
    intro j y hy;obtain ⟨cs, hl, hr, hcell⟩ := hc j y hy;have e : cs = [.string y] := hr;have := hcell 0 (.string y) (by rw [e]; rfl);simpa [Kd.string, Kd.scalar] using this
   have h0 := hcell 0 x rfl;(have hs : ad.spot = none := by have := spot_none h0; simpa [Addr.add] using this);obtain ⟨bk, o, sp⟩ := ad;obtain rfl : sp = none := hs;refine Tryz.strings_Join bk o c0 (x :: t) a1 w (fun j y hy => ?_) (by have := World.block_lt_of_cell? w _ h0; simpa [Addr.add] using this) h1 hc0 h2;rw [← hcell j y hy]
   congr 1
   unfold Addr.add
   split <;> simp_all
 ·cases h
end Go.Proofs.YtfjeagglminhoaaGreatDoor.Q
