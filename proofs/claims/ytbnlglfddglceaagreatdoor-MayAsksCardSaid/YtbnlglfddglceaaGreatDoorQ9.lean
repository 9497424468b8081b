-- Written by a program of this session's (wip/xprint.py), out of the seat's translation.
import Derived.Test.YtbnlglfddglceaaGreatDoorQ0
import Derived.Test.YtbnlglfddglceaaGreatDoorQ2
import Derived.Test.YtbnlglfddglceaaGreatDoorQ8
import Derived.Test.YtbnlglfddglceaaGreatDoorSh
namespace Go.Proofs.YtbnlglfddglceaaGreatDoor.Q
open Go.RowKit Go.Proofs.YtbnlglfddglceaaGreatDoorW.PrintWords Go.Proofs.YtbnlglfddglceaaGreatDoorW.PrintLast Go.Proofs.YtbnlglfddglceaaGreatDoorW.PrintMore
open Go.Proofs.YtbnlglfddglceaaGreatDoor.Own (Y Z sA sB sC)
open Go.Proofs.YtbnlglfddglceaaGreatDoor.Sh
attribute [local go_sem] max2_int min2_int max_two min_two max_three min_three max_four min_four   -- for this text's walks alone
set_option linter.unusedVariables false
set_option linter.unusedSimpArgs false
/-! ### may_Response: function 9 -/
def may_Response.f (k : Nat) (a0_0 : Int) (l0_1 : List (S56)) (l0_2 : List Int) : Option (Bool) := if a0_0 = 0 then (if (l0_1.length : Int) = 0 then (some ((l0_2.length : Int) == 0)) else (some false)) else (if a0_0 ≥ 100 then (if a0_0 ≤ 599 then ((head_May.f k l0_1).bind fun t269 => (if t269 = true then (some (decide ((l0_2.length : Int) ≤ 20000))) else (some false))) else (some false)) else (some false))
theorem may_Response.mono : ∀ a0 a1 a2 k, LeO (may_Response.f k a0 a1 a2) (may_Response.f (k + 1) a0 a1 a2) := by
 intro a0 a1 a2 k
 unfold may_Response.f
 repeat' first
   | (with_reducible exact head_May.mono _ _)
   | (with_reducible exact LeO.refl _)
   | (with_reducible exact LeO.none _)
   | (with_reducible refine LeO.ite ?_ ?_)
   | (with_reducible refine LeO.bind ?_ (fun _ => ?_))
   | exact head_May.mono _ _
   | exact LeO.none _
   | refine LeO.ite ?_ ?_
   | refine LeO.bind ?_ (fun _ => ?_)
set_option maxHeartbeats 2000000 in
set_option maxRecDepth 100000 in
theorem may_Response.calls (k : Nat) (a0_0 : Int) (A0_1 : Option Addr) (c0_1 : Nat) (l0_1 : List (S56)) (A0_2 : Option Addr) (c0_2 : Nat) (l0_2 : List Int) (r : Bool) (w : World) (hr0_1 : Kd.C k56 w A0_1 l0_1.length l0_1) (hc0_1 : l0_1.length ≤ c0_1) (hr0_2 : Kd.C (Kd.int .u8) w A0_2 l0_2.length l0_2) (hc0_2 : l0_2.length ≤ c0_2) (h : may_Response.f k a0_0 l0_1 l0_2 = some r) :
  Calls Tryz.prog 9 #[.agg #[.int .i64 a0_0, .slice A0_1 l0_1.length c0_1, .slice A0_2 l0_2.length c0_2]] w fun e w' => e = .returned (.bool r) ∧ Below w.heap.size w w' := by
 have hu27 := Tryz.underlying27;have HR0_1 := am hr0_1;have HC0_1 := am hc0_1;clear hr0_1 hc0_1;have HR0_2 := am hr0_2;have HC0_2 := am hc0_2;clear hr0_2 hc0_2;have HB := am (Below.refl w.heap.size w);have H : (if a0_0 = 0 then (if (l0_1.length : Int) = 0 then (some ((l0_2.length : Int) == 0)) else (some false)) else (if a0_0 ≥ 100 then (if a0_0 ≤ 599 then ((head_May.f k l0_1).bind fun t269 => (if t269 = true then (some (decide ((l0_2.length : Int) ≤ 20000))) else (some false))) else (some false)) else (some false))) = some r := h;clear h
 by_cases c2 : a0_0 = 0
 ·rw [if_pos c2] at H
  have c2b0 : (a0_0 == 0) = true := beq_iff_eq.mpr c2;have c2b1 : (a0_0 != 0) = false := bne_eq_false_iff_eq.mpr c2;clear c2
  by_cases c3 : (l0_1.length : Int) = 0
  ·rw [if_pos c3] at H
   have c3b0 : ((l0_1.length : Int) == 0) = true := beq_iff_eq.mpr c3;have c3b1 : ((l0_1.length : Int) != 0) = false := bne_eq_false_iff_eq.mpr c3;clear c3;obtain rfl := Option.some.inj H
   (try (have e_c3b0 := c3b0; simp only [c2b0] at e_c3b0; simp at e_c3b0))
   go_enter Tryz.func9, Tryz.ntmps9;go_wp2_with (first | ((with_reducible refine gate_dst (N:=1) rfl ?_); (try (refine gate_guard (by rfl) ?_; dsimp only)); refine box_event ?hg (N:=1) ?hd (cs := #[.int .i64 a0_0, .slice A0_1 l0_1.length c0_1, .slice A0_2 l0_2.length c0_2]) (t:=27) ?hr ?_; (case hd => rfl); (case hg => rfl); (case hr => first | (go_simp; done) | (go_simp; rfl)); intro gb268 hg w4 hbox hb; have n0_ := am (below_step (hA HB.out) hb); have n1_ := am (hbox); have n2_ := am ((by rw [hg]; exact (below_size (hA HB.out)) : w.heap.size ≤ gb268)); have n3_ := am ((by rw [hg]; exact (below_size (hA HB.out)) : w.heap.size ≤ gb268)); clear HB; have HB := n0_; have BK268 := n1_; have GW268 := n2_; have GE268 := n3_; clear n0_ n1_ n2_ n3_; clear hb hbox hg; have hcz5_0 := bC BK268.out 0 rfl; have hcz5_1 := bC BK268.out 1 rfl; have hcz5_2 := bC BK268.out 2 rfl; have hfz5_0 := blk_frozen BK268.out 0; have hfz5_1 := blk_frozen BK268.out 1; have hfz5_2 := blk_frozen BK268.out 2));go_ret;exact ⟨by first | rfl | (simp [errW_none, errW_some] <;> rfl) | (simp [*, errW_none, errW_some] <;> rfl), by repeat (first | (with_reducible first | exact HB.out | apply below_alloc | apply pw_below_drewN | apply below_drew1 | refine below_set ?_ GE268.out) | exact HB.out)⟩
  ·rw [if_neg c3] at H
   have c3b0 : ((l0_1.length : Int) == 0) = false := beq_eq_false_iff_ne.mpr c3;have c3b1 : ((l0_1.length : Int) != 0) = true := bne_iff_ne.mpr c3;(have c3b2 : ¬ (l0_1 = []) := fun h_ => c3 (by rw [h_]; rfl));obtain rfl := Option.some.inj H
   (try (have e_c3b0 := c3b0; simp only [c2b0] at e_c3b0; simp at e_c3b0))
   go_enter Tryz.func9, Tryz.ntmps9;go_wp2_with (first | ((with_reducible refine gate_dst (N:=1) rfl ?_); (try (refine gate_guard (by rfl) ?_; dsimp only)); refine box_event ?hg (N:=1) ?hd (cs := #[.int .i64 a0_0, .slice A0_1 l0_1.length c0_1, .slice A0_2 l0_2.length c0_2]) (t:=27) ?hr ?_; (case hd => rfl); (case hg => rfl); (case hr => first | (go_simp; done) | (go_simp; rfl)); intro gb268 hg w6 hbox hb; have n0_ := am (below_step (hA HB.out) hb); have n1_ := am (hbox); have n2_ := am ((by rw [hg]; exact (below_size (hA HB.out)) : w.heap.size ≤ gb268)); have n3_ := am ((by rw [hg]; exact (below_size (hA HB.out)) : w.heap.size ≤ gb268)); clear HB; have HB := n0_; have BK268 := n1_; have GW268 := n2_; have GE268 := n3_; clear n0_ n1_ n2_ n3_; clear hb hbox hg; have hcz7_0 := bC BK268.out 0 rfl; have hcz7_1 := bC BK268.out 1 rfl; have hcz7_2 := bC BK268.out 2 rfl; have hfz7_0 := blk_frozen BK268.out 0; have hfz7_1 := blk_frozen BK268.out 1; have hfz7_2 := blk_frozen BK268.out 2));go_ret;exact ⟨by first | rfl | (simp [errW_none, errW_some] <;> rfl) | (simp [*, errW_none, errW_some] <;> rfl), by repeat (first | (with_reducible first | exact HB.out | apply below_alloc | apply pw_below_drewN | apply below_drew1 | refine below_set ?_ GE268.out) | exact HB.out)⟩
 ·rw [if_neg c2] at H
  have c2b0 : (a0_0 == 0) = false := beq_eq_false_iff_ne.mpr c2;have c2b1 : (a0_0 != 0) = true := bne_iff_ne.mpr c2
  by_cases c8 : a0_0 ≥ 100
  ·rw [if_pos c8] at H
   have c8b0 : decide (100 ≤ a0_0) = true := decide_eq_true c8;clear c8
   by_cases c9 : a0_0 ≤ 599
   ·rw [if_pos c9] at H
    have c9b0 : decide (a0_0 ≤ 599) = true := decide_eq_true c9;clear c9;replace H := Option.bind_eq_some_iff.mp H;obtain ⟨t269, A100, H⟩ := H;replace H : (if t269 = true then (some (decide ((l0_2.length : Int) ≤ 20000))) else (some false)) = some r := H;have A10 := am A100;clear A100
    by_cases c11 : t269 = true
    ·subst c11;(have H1 : (some (decide ((l0_2.length : Int) ≤ 20000))) = some r := by rw [if_pos rfl] at H; exact H);clear H;have H := H1;clear H1;obtain rfl := Option.some.inj H;go_enter Tryz.func9, Tryz.ntmps9;go_wp2_with (first | ((with_reducible refine gate_dst (N:=1) rfl ?_); (try (refine gate_guard (by rfl) ?_; dsimp only)); refine box_event ?hg (N:=1) ?hd (cs := #[.int .i64 a0_0, .slice A0_1 l0_1.length c0_1, .slice A0_2 l0_2.length c0_2]) (t:=27) ?hr ?_; (case hd => rfl); (case hg => rfl); (case hr => first | (go_simp; done) | (go_simp; rfl)); intro gb268 hg w12 hbox hb; have n0_ := am (below_step (hA HB.out) hb); have n1_ := am (hbox); have n2_ := am ((by rw [hg]; exact (below_size (hA HB.out)) : w.heap.size ≤ gb268)); have n3_ := am ((by rw [hg]; exact (below_size (hA HB.out)) : w.heap.size ≤ gb268)); clear HB; have HB := n0_; have BK268 := n1_; have GW268 := n2_; have GE268 := n3_; clear n0_ n1_ n2_ n3_; clear hb hbox hg; have hcz13_0 := bC BK268.out 0 rfl; have hcz13_1 := bC BK268.out 1 rfl; have hcz13_2 := bC BK268.out 2 rfl; have hfz13_0 := blk_frozen BK268.out 0; have hfz13_1 := blk_frozen BK268.out 1; have hfz13_2 := blk_frozen BK268.out 2) | (go_at_call 19; (with_reducible refine (head_May.calls k _ _ l0_1 true _ ?side1 ?side2 A10.out).mono ?_); (case side1 => exact cA (Kd.C_below HR0_1.out HB.out)); (case side2 => exact HC0_1.out); rintro e w14 ⟨rfl, hb⟩; have n0_ := am (blk_below (bA BK268.out) hb); have n1_ := am (below_step (hA1 HB.out GE268.out) hb); clear BK268; clear HB; have BK268 := n0_; have HB := n1_; clear n0_ n1_; (try clear hb); (try clear hb2); (try clear hk); (try clear hi); have hcz15_0 := bC BK268.out 0 rfl; have hcz15_1 := bC BK268.out 1 rfl; have hcz15_2 := bC BK268.out 2 rfl; have hfz15_0 := blk_frozen BK268.out 0; have hfz15_1 := blk_frozen BK268.out 1; have hfz15_2 := blk_frozen BK268.out 2));go_ret;exact ⟨by first | rfl | (simp [errW_none, errW_some] <;> rfl) | (simp [*, errW_none, errW_some] <;> rfl), by repeat (first | (with_reducible first | exact HB.out | apply below_alloc | apply pw_below_drewN | apply below_drew1 | refine below_set ?_ GE268.out) | exact HB.out)⟩
    ·replace c11 := Bool.eq_false_iff.mpr c11;subst c11;(have H1 : (some false) = some r := by rw [if_neg (show ¬ (false = true) by decide)] at H; exact H);clear H;have H := H1;clear H1;obtain rfl := Option.some.inj H;go_enter Tryz.func9, Tryz.ntmps9;go_wp2_with (first | ((with_reducible refine gate_dst (N:=1) rfl ?_); (try (refine gate_guard (by rfl) ?_; dsimp only)); refine box_event ?hg (N:=1) ?hd (cs := #[.int .i64 a0_0, .slice A0_1 l0_1.length c0_1, .slice A0_2 l0_2.length c0_2]) (t:=27) ?hr ?_; (case hd => rfl); (case hg => rfl); (case hr => first | (go_simp; done) | (go_simp; rfl)); intro gb268 hg w16 hbox hb; have n0_ := am (below_step (hA HB.out) hb); have n1_ := am (hbox); have n2_ := am ((by rw [hg]; exact (below_size (hA HB.out)) : w.heap.size ≤ gb268)); have n3_ := am ((by rw [hg]; exact (below_size (hA HB.out)) : w.heap.size ≤ gb268)); clear HB; have HB := n0_; have BK268 := n1_; have GW268 := n2_; have GE268 := n3_; clear n0_ n1_ n2_ n3_; clear hb hbox hg; have hcz17_0 := bC BK268.out 0 rfl; have hcz17_1 := bC BK268.out 1 rfl; have hcz17_2 := bC BK268.out 2 rfl; have hfz17_0 := blk_frozen BK268.out 0; have hfz17_1 := blk_frozen BK268.out 1; have hfz17_2 := blk_frozen BK268.out 2) | (go_at_call 19; (with_reducible refine (head_May.calls k _ _ l0_1 false _ ?side1 ?side2 A10.out).mono ?_); (case side1 => exact cA (Kd.C_below HR0_1.out HB.out)); (case side2 => exact HC0_1.out); rintro e w18 ⟨rfl, hb⟩; have n0_ := am (blk_below (bA BK268.out) hb); have n1_ := am (below_step (hA1 HB.out GE268.out) hb); clear BK268; clear HB; have BK268 := n0_; have HB := n1_; clear n0_ n1_; (try clear hb); (try clear hb2); (try clear hk); (try clear hi)));go_ret;exact ⟨by first | rfl | (simp [errW_none, errW_some] <;> rfl) | (simp [*, errW_none, errW_some] <;> rfl), by repeat (first | (with_reducible first | exact HB.out | apply below_alloc | apply pw_below_drewN | apply below_drew1 | refine below_set ?_ GE268.out) | exact HB.out)⟩
   ·rw [if_neg c9] at H;have c9b0 : decide (a0_0 ≤ 599) = false := decide_eq_false c9;clear c9;obtain rfl := Option.some.inj H;go_enter Tryz.func9, Tryz.ntmps9;go_wp2_with (first | ((with_reducible refine gate_dst (N:=1) rfl ?_); (try (refine gate_guard (by rfl) ?_; dsimp only)); refine box_event ?hg (N:=1) ?hd (cs := #[.int .i64 a0_0, .slice A0_1 l0_1.length c0_1, .slice A0_2 l0_2.length c0_2]) (t:=27) ?hr ?_; (case hd => rfl); (case hg => rfl); (case hr => first | (go_simp; done) | (go_simp; rfl)); intro gb268 hg w19 hbox hb; have n0_ := am (below_step (hA HB.out) hb); have n1_ := am (hbox); have n2_ := am ((by rw [hg]; exact (below_size (hA HB.out)) : w.heap.size ≤ gb268)); have n3_ := am ((by rw [hg]; exact (below_size (hA HB.out)) : w.heap.size ≤ gb268)); clear HB; have HB := n0_; have BK268 := n1_; have GW268 := n2_; have GE268 := n3_; clear n0_ n1_ n2_ n3_; clear hb hbox hg; have hcz20_0 := bC BK268.out 0 rfl; have hcz20_1 := bC BK268.out 1 rfl; have hcz20_2 := bC BK268.out 2 rfl; have hfz20_0 := blk_frozen BK268.out 0; have hfz20_1 := blk_frozen BK268.out 1; have hfz20_2 := blk_frozen BK268.out 2));go_ret;exact ⟨by first | rfl | (simp [errW_none, errW_some] <;> rfl) | (simp [*, errW_none, errW_some] <;> rfl), by repeat (first | (with_reducible first | exact HB.out | apply below_alloc | apply pw_below_drewN | apply below_drew1 | refine below_set ?_ GE268.out) | exact HB.out)⟩
  ·rw [if_neg c8] at H;have c8b0 : decide (100 ≤ a0_0) = false := decide_eq_false c8;clear c8;obtain rfl := Option.some.inj H;go_enter Tryz.func9, Tryz.ntmps9;go_wp2_with (first | ((with_reducible refine gate_dst (N:=1) rfl ?_); (try (refine gate_guard (by rfl) ?_; dsimp only)); refine box_event ?hg (N:=1) ?hd (cs := #[.int .i64 a0_0, .slice A0_1 l0_1.length c0_1, .slice A0_2 l0_2.length c0_2]) (t:=27) ?hr ?_; (case hd => rfl); (case hg => rfl); (case hr => first | (go_simp; done) | (go_simp; rfl)); intro gb268 hg w21 hbox hb; have n0_ := am (below_step (hA HB.out) hb); have n1_ := am (hbox); have n2_ := am ((by rw [hg]; exact (below_size (hA HB.out)) : w.heap.size ≤ gb268)); have n3_ := am ((by rw [hg]; exact (below_size (hA HB.out)) : w.heap.size ≤ gb268)); clear HB; have HB := n0_; have BK268 := n1_; have GW268 := n2_; have GE268 := n3_; clear n0_ n1_ n2_ n3_; clear hb hbox hg; have hcz22_0 := bC BK268.out 0 rfl; have hcz22_1 := bC BK268.out 1 rfl; have hcz22_2 := bC BK268.out 2 rfl; have hfz22_0 := blk_frozen BK268.out 0; have hfz22_1 := blk_frozen BK268.out 1; have hfz22_2 := blk_frozen BK268.out 2));go_ret;exact ⟨by first | rfl | (simp [errW_none, errW_some] <;> rfl) | (simp [*, errW_none, errW_some] <;> rfl), by repeat (first | (with_reducible first | exact HB.out | apply below_alloc | apply pw_below_drewN | apply below_drew1 | refine below_set ?_ GE268.out) | exact HB.out)⟩
/-! ### sprref19_MayResponse: function 10 -/
def sprref19_MayResponse.f (k : Nat) (a0_0 : Int) (l0_1 : List (S56)) (l0_2 : List Int) : Option (Bool) := if a0_0 = 0 then (some ((wrap64 ((l0_1.length : Int) + (l0_2.length : Int))) == 0)) else (if a0_0 ≥ 100 then (if a0_0 ≤ 599 then ((sprref12_May.f k l0_1).bind fun t271 => (if t271 = true then (some (decide ((l0_2.length : Int) ≤ 20000))) else (some false))) else (some false)) else (some false))
theorem sprref19_MayResponse.mono : ∀ a0 a1 a2 k, LeO (sprref19_MayResponse.f k a0 a1 a2) (sprref19_MayResponse.f (k + 1) a0 a1 a2) := by
 intro a0 a1 a2 k
 unfold sprref19_MayResponse.f
 repeat' first
   | (with_reducible exact sprref12_May.mono _ _)
   | (with_reducible exact LeO.refl _)
   | (with_reducible exact LeO.none _)
   | (with_reducible refine LeO.ite ?_ ?_)
   | (with_reducible refine LeO.bind ?_ (fun _ => ?_))
   | exact sprref12_May.mono _ _
   | exact LeO.none _
   | refine LeO.ite ?_ ?_
   | refine LeO.bind ?_ (fun _ => ?_)
set_option maxHeartbeats 2000000 in
set_option maxRecDepth 100000 in
theorem sprref19_MayResponse.calls (k : Nat) (a0_0 : Int) (A0_1 : Option Addr) (c0_1 : Nat) (l0_1 : List (S56)) (A0_2 : Option Addr) (c0_2 : Nat) (l0_2 : List Int) (r : Bool) (w : World) (hr0_1 : Kd.C k56 w A0_1 l0_1.length l0_1) (hc0_1 : l0_1.length ≤ c0_1) (hr0_2 : Kd.C (Kd.int .u8) w A0_2 l0_2.length l0_2) (hc0_2 : l0_2.length ≤ c0_2) (h : sprref19_MayResponse.f k a0_0 l0_1 l0_2 = some r) :
  Calls Tryz.prog 10 #[.agg #[.int .i64 a0_0, .slice A0_1 l0_1.length c0_1, .slice A0_2 l0_2.length c0_2]] w fun e w' => e = .returned (.bool r) ∧ Below w.heap.size w w' := by
 have hu27 := Tryz.underlying27;have HR0_1 := am hr0_1;have HC0_1 := am hc0_1;clear hr0_1 hc0_1;have HR0_2 := am hr0_2;have HC0_2 := am hc0_2;clear hr0_2 hc0_2;have HB := am (Below.refl w.heap.size w);have H : (if a0_0 = 0 then (some ((wrap64 ((l0_1.length : Int) + (l0_2.length : Int))) == 0)) else (if a0_0 ≥ 100 then (if a0_0 ≤ 599 then ((sprref12_May.f k l0_1).bind fun t271 => (if t271 = true then (some (decide ((l0_2.length : Int) ≤ 20000))) else (some false))) else (some false)) else (some false))) = some r := h;clear h
 by_cases c2 : a0_0 = 0
 ·rw [if_pos c2] at H;have c2b0 : (a0_0 == 0) = true := beq_iff_eq.mpr c2;have c2b1 : (a0_0 != 0) = false := bne_eq_false_iff_eq.mpr c2;clear c2;obtain rfl := Option.some.inj H;go_enter Tryz.func10, Tryz.ntmps10;go_wp2_with (first | ((with_reducible refine gate_dst (N:=1) rfl ?_); (try (refine gate_guard (by rfl) ?_; dsimp only)); refine box_event ?hg (N:=1) ?hd (cs := #[.int .i64 a0_0, .slice A0_1 l0_1.length c0_1, .slice A0_2 l0_2.length c0_2]) (t:=27) ?hr ?_; (case hd => rfl); (case hg => rfl); (case hr => first | (go_simp; done) | (go_simp; rfl)); intro gb270 hg w3 hbox hb; have n0_ := am (below_step (hA HB.out) hb); have n1_ := am (hbox); have n2_ := am ((by rw [hg]; exact (below_size (hA HB.out)) : w.heap.size ≤ gb270)); have n3_ := am ((by rw [hg]; exact (below_size (hA HB.out)) : w.heap.size ≤ gb270)); clear HB; have HB := n0_; have BK270 := n1_; have GW270 := n2_; have GE270 := n3_; clear n0_ n1_ n2_ n3_; clear hb hbox hg; have hcz4_0 := bC BK270.out 0 rfl; have hcz4_1 := bC BK270.out 1 rfl; have hcz4_2 := bC BK270.out 2 rfl; have hfz4_0 := blk_frozen BK270.out 0; have hfz4_1 := blk_frozen BK270.out 1; have hfz4_2 := blk_frozen BK270.out 2));go_ret;exact ⟨by first | rfl | (simp [errW_none, errW_some] <;> rfl) | (simp [*, errW_none, errW_some] <;> rfl), by repeat (first | (with_reducible first | exact HB.out | apply below_alloc | apply pw_below_drewN | apply below_drew1 | refine below_set ?_ GE270.out) | exact HB.out)⟩
 ·rw [if_neg c2] at H
  have c2b0 : (a0_0 == 0) = false := beq_eq_false_iff_ne.mpr c2;have c2b1 : (a0_0 != 0) = true := bne_iff_ne.mpr c2
  by_cases c5 : a0_0 ≥ 100
  ·rw [if_pos c5] at H
   have c5b0 : decide (100 ≤ a0_0) = true := decide_eq_true c5;clear c5
   by_cases c6 : a0_0 ≤ 599
   ·rw [if_pos c6] at H
    have c6b0 : decide (a0_0 ≤ 599) = true := decide_eq_true c6;clear c6;replace H := Option.bind_eq_some_iff.mp H;obtain ⟨t271, A70, H⟩ := H;replace H : (if t271 = true then (some (decide ((l0_2.length : Int) ≤ 20000))) else (some false)) = some r := H;have A7 := am A70;clear A70
    by_cases c8 : t271 = true
    ·subst c8;(have H1 : (some (decide ((l0_2.length : Int) ≤ 20000))) = some r := by rw [if_pos rfl] at H; exact H);clear H;have H := H1;clear H1;obtain rfl := Option.some.inj H;go_enter Tryz.func10, Tryz.ntmps10;go_wp2_with (first | ((with_reducible refine gate_dst (N:=1) rfl ?_); (try (refine gate_guard (by rfl) ?_; dsimp only)); refine box_event ?hg (N:=1) ?hd (cs := #[.int .i64 a0_0, .slice A0_1 l0_1.length c0_1, .slice A0_2 l0_2.length c0_2]) (t:=27) ?hr ?_; (case hd => rfl); (case hg => rfl); (case hr => first | (go_simp; done) | (go_simp; rfl)); intro gb270 hg w9 hbox hb; have n0_ := am (below_step (hA HB.out) hb); have n1_ := am (hbox); have n2_ := am ((by rw [hg]; exact (below_size (hA HB.out)) : w.heap.size ≤ gb270)); have n3_ := am ((by rw [hg]; exact (below_size (hA HB.out)) : w.heap.size ≤ gb270)); clear HB; have HB := n0_; have BK270 := n1_; have GW270 := n2_; have GE270 := n3_; clear n0_ n1_ n2_ n3_; clear hb hbox hg; have hcz10_0 := bC BK270.out 0 rfl; have hcz10_1 := bC BK270.out 1 rfl; have hcz10_2 := bC BK270.out 2 rfl; have hfz10_0 := blk_frozen BK270.out 0; have hfz10_1 := blk_frozen BK270.out 1; have hfz10_2 := blk_frozen BK270.out 2) | (go_at_call 21; (with_reducible refine (sprref12_May.calls k _ _ l0_1 true _ ?side1 ?side2 A7.out).mono ?_); (case side1 => exact cA (Kd.C_below HR0_1.out HB.out)); (case side2 => exact HC0_1.out); rintro e w' ⟨rfl, ⟨nd, rfl⟩⟩));go_ret;exact ⟨by first | rfl | (simp [errW_none, errW_some] <;> rfl) | (simp [*, errW_none, errW_some] <;> rfl), by repeat (first | (with_reducible first | exact HB.out | apply below_alloc | apply pw_below_drewN | apply below_drew1 | refine below_set ?_ GE270.out) | exact HB.out)⟩
    ·replace c8 := Bool.eq_false_iff.mpr c8;subst c8;(have H1 : (some false) = some r := by rw [if_neg (show ¬ (false = true) by decide)] at H; exact H);clear H;have H := H1;clear H1;obtain rfl := Option.some.inj H;go_enter Tryz.func10, Tryz.ntmps10;go_wp2_with (first | ((with_reducible refine gate_dst (N:=1) rfl ?_); (try (refine gate_guard (by rfl) ?_; dsimp only)); refine box_event ?hg (N:=1) ?hd (cs := #[.int .i64 a0_0, .slice A0_1 l0_1.length c0_1, .slice A0_2 l0_2.length c0_2]) (t:=27) ?hr ?_; (case hd => rfl); (case hg => rfl); (case hr => first | (go_simp; done) | (go_simp; rfl)); intro gb270 hg w11 hbox hb; have n0_ := am (below_step (hA HB.out) hb); have n1_ := am (hbox); have n2_ := am ((by rw [hg]; exact (below_size (hA HB.out)) : w.heap.size ≤ gb270)); have n3_ := am ((by rw [hg]; exact (below_size (hA HB.out)) : w.heap.size ≤ gb270)); clear HB; have HB := n0_; have BK270 := n1_; have GW270 := n2_; have GE270 := n3_; clear n0_ n1_ n2_ n3_; clear hb hbox hg; have hcz12_0 := bC BK270.out 0 rfl; have hcz12_1 := bC BK270.out 1 rfl; have hcz12_2 := bC BK270.out 2 rfl; have hfz12_0 := blk_frozen BK270.out 0; have hfz12_1 := blk_frozen BK270.out 1; have hfz12_2 := blk_frozen BK270.out 2) | (go_at_call 21; (with_reducible refine (sprref12_May.calls k _ _ l0_1 false _ ?side1 ?side2 A7.out).mono ?_); (case side1 => exact cA (Kd.C_below HR0_1.out HB.out)); (case side2 => exact HC0_1.out); rintro e w' ⟨rfl, ⟨nd, rfl⟩⟩));go_ret;exact ⟨by first | rfl | (simp [errW_none, errW_some] <;> rfl) | (simp [*, errW_none, errW_some] <;> rfl), by repeat (first | (with_reducible first | exact HB.out | apply below_alloc | apply pw_below_drewN | apply below_drew1 | refine below_set ?_ GE270.out) | exact HB.out)⟩
   ·rw [if_neg c6] at H;have c6b0 : decide (a0_0 ≤ 599) = false := decide_eq_false c6;clear c6;obtain rfl := Option.some.inj H;go_enter Tryz.func10, Tryz.ntmps10;go_wp2_with (first | ((with_reducible refine gate_dst (N:=1) rfl ?_); (try (refine gate_guard (by rfl) ?_; dsimp only)); refine box_event ?hg (N:=1) ?hd (cs := #[.int .i64 a0_0, .slice A0_1 l0_1.length c0_1, .slice A0_2 l0_2.length c0_2]) (t:=27) ?hr ?_; (case hd => rfl); (case hg => rfl); (case hr => first | (go_simp; done) | (go_simp; rfl)); intro gb270 hg w13 hbox hb; have n0_ := am (below_step (hA HB.out) hb); have n1_ := am (hbox); have n2_ := am ((by rw [hg]; exact (below_size (hA HB.out)) : w.heap.size ≤ gb270)); have n3_ := am ((by rw [hg]; exact (below_size (hA HB.out)) : w.heap.size ≤ gb270)); clear HB; have HB := n0_; have BK270 := n1_; have GW270 := n2_; have GE270 := n3_; clear n0_ n1_ n2_ n3_; clear hb hbox hg; have hcz14_0 := bC BK270.out 0 rfl; have hcz14_1 := bC BK270.out 1 rfl; have hcz14_2 := bC BK270.out 2 rfl; have hfz14_0 := blk_frozen BK270.out 0; have hfz14_1 := blk_frozen BK270.out 1; have hfz14_2 := blk_frozen BK270.out 2));go_ret;exact ⟨by first | rfl | (simp [errW_none, errW_some] <;> rfl) | (simp [*, errW_none, errW_some] <;> rfl), by repeat (first | (with_reducible first | exact HB.out | apply below_alloc | apply pw_below_drewN | apply below_drew1 | refine below_set ?_ GE270.out) | exact HB.out)⟩
  ·rw [if_neg c5] at H;have c5b0 : decide (100 ≤ a0_0) = false := decide_eq_false c5;clear c5;obtain rfl := Option.some.inj H;go_enter Tryz.func10, Tryz.ntmps10;go_wp2_with (first | ((with_reducible refine gate_dst (N:=1) rfl ?_); (try (refine gate_guard (by rfl) ?_; dsimp only)); refine box_event ?hg (N:=1) ?hd (cs := #[.int .i64 a0_0, .slice A0_1 l0_1.length c0_1, .slice A0_2 l0_2.length c0_2]) (t:=27) ?hr ?_; (case hd => rfl); (case hg => rfl); (case hr => first | (go_simp; done) | (go_simp; rfl)); intro gb270 hg w15 hbox hb; have n0_ := am (below_step (hA HB.out) hb); have n1_ := am (hbox); have n2_ := am ((by rw [hg]; exact (below_size (hA HB.out)) : w.heap.size ≤ gb270)); have n3_ := am ((by rw [hg]; exact (below_size (hA HB.out)) : w.heap.size ≤ gb270)); clear HB; have HB := n0_; have BK270 := n1_; have GW270 := n2_; have GE270 := n3_; clear n0_ n1_ n2_ n3_; clear hb hbox hg; have hcz16_0 := bC BK270.out 0 rfl; have hcz16_1 := bC BK270.out 1 rfl; have hcz16_2 := bC BK270.out 2 rfl; have hfz16_0 := blk_frozen BK270.out 0; have hfz16_1 := blk_frozen BK270.out 1; have hfz16_2 := blk_frozen BK270.out 2));go_ret;exact ⟨by first | rfl | (simp [errW_none, errW_some] <;> rfl) | (simp [*, errW_none, errW_some] <;> rfl), by repeat (first | (with_reducible first | exact HB.out | apply below_alloc | apply pw_below_drewN | apply below_drew1 | refine below_set ?_ GE270.out) | exact HB.out)⟩
/-! ### sprref19_Unsafe: function 12 -/
def sprref19_Unsafe.f (a0 : ByteArray) : Option (Bool) := if a0.toList = ([71, 69, 84] : List UInt8) then (some false) else (if a0.toList = ([72, 69, 65, 68] : List UInt8) then (some false) else (if a0.toList = ([79, 80, 84, 73, 79, 78, 83] : List UInt8) then (some false) else (some (a0.toList != ([84, 82, 65, 67, 69] : List UInt8)))))
set_option maxHeartbeats 2000000 in
set_option maxRecDepth 100000 in
theorem sprref19_Unsafe.calls (a0 : ByteArray) (r : Bool) (w : World) (h : sprref19_Unsafe.f a0 = some r) :
  Calls Tryz.prog 12 #[.string a0] w fun e w' => e = .returned (.bool r) ∧ Drawn0 w w' := by
 have H : (if a0.toList = ([71, 69, 84] : List UInt8) then (some false) else (if a0.toList = ([72, 69, 65, 68] : List UInt8) then (some false) else (if a0.toList = ([79, 80, 84, 73, 79, 78, 83] : List UInt8) then (some false) else (some (a0.toList != ([84, 82, 65, 67, 69] : List UInt8)))))) = some r := h;clear h
 by_cases c2 : a0.toList = ([71, 69, 84] : List UInt8)
 ·rw [if_pos c2] at H;have c2b0 : (a0.toList == ([71, 69, 84] : List UInt8)) = true := beq_iff_eq.mpr c2;have c2b1 : (a0.toList != ([71, 69, 84] : List UInt8)) = false := bne_eq_false_iff_eq.mpr c2;clear c2;obtain rfl := Option.some.inj H;go_enter Tryz.func12, Tryz.ntmps12;go_wp2;go_ret;exact ⟨by first | rfl | (simp; done) | (simp [*]; done), by repeat (first | exact Drawn0.refl _ | apply Drawn0.step)⟩
 ·rw [if_neg c2] at H
  have c2b0 : (a0.toList == ([71, 69, 84] : List UInt8)) = false := beq_eq_false_iff_ne.mpr c2;have c2b1 : (a0.toList != ([71, 69, 84] : List UInt8)) = true := bne_iff_ne.mpr c2
  by_cases c3 : a0.toList = ([72, 69, 65, 68] : List UInt8)
  ·rw [if_pos c3] at H
   have c3b0 : (a0.toList == ([72, 69, 65, 68] : List UInt8)) = true := beq_iff_eq.mpr c3;have c3b1 : (a0.toList != ([72, 69, 65, 68] : List UInt8)) = false := bne_eq_false_iff_eq.mpr c3;clear c3;obtain rfl := Option.some.inj H
   (try (have e_c2b0 := c2b0; simp only [c3b0] at e_c2b0; simp at e_c2b0))
   (try (have e_c3b0 := c3b0; simp only [c2b0] at e_c3b0; simp at e_c3b0))
   go_enter Tryz.func12, Tryz.ntmps12;go_wp2;go_ret;exact ⟨by first | rfl | (simp; done) | (simp [*]; done), by repeat (first | exact Drawn0.refl _ | apply Drawn0.step)⟩
  ·rw [if_neg c3] at H
   have c3b0 : (a0.toList == ([72, 69, 65, 68] : List UInt8)) = false := beq_eq_false_iff_ne.mpr c3;have c3b1 : (a0.toList != ([72, 69, 65, 68] : List UInt8)) = true := bne_iff_ne.mpr c3
   by_cases c4 : a0.toList = ([79, 80, 84, 73, 79, 78, 83] : List UInt8)
   ·rw [if_pos c4] at H
    have c4b0 : (a0.toList == ([79, 80, 84, 73, 79, 78, 83] : List UInt8)) = true := beq_iff_eq.mpr c4;have c4b1 : (a0.toList != ([79, 80, 84, 73, 79, 78, 83] : List UInt8)) = false := bne_eq_false_iff_eq.mpr c4;clear c4;obtain rfl := Option.some.inj H
    (try (have e_c2b0 := c2b0; simp only [c3b0, c4b0] at e_c2b0; simp at e_c2b0))
    (try (have e_c3b0 := c3b0; simp only [c2b0, c4b0] at e_c3b0; simp at e_c3b0))
    (try (have e_c4b0 := c4b0; simp only [c2b0, c3b0] at e_c4b0; simp at e_c4b0))
    go_enter Tryz.func12, Tryz.ntmps12;go_wp2;go_ret;exact ⟨by first | rfl | (simp; done) | (simp [*]; done), by repeat (first | exact Drawn0.refl _ | apply Drawn0.step)⟩
   ·rw [if_neg c4] at H
    have c4b0 : (a0.toList == ([79, 80, 84, 73, 79, 78, 83] : List UInt8)) = false := beq_eq_false_iff_ne.mpr c4;have c4b1 : (a0.toList != ([79, 80, 84, 73, 79, 78, 83] : List UInt8)) = true := bne_iff_ne.mpr c4;obtain rfl := Option.some.inj H
    (try (have e_c2b0 := c2b0; simp only [c3b0, c4b0] at e_c2b0; simp at e_c2b0))
    (try (have e_c3b0 := c3b0; simp only [c2b0, c4b0] at e_c3b0; simp at e_c3b0))
    (try (have e_c4b0 := c4b0; simp only [c2b0, c3b0] at e_c4b0; simp at e_c4b0))
    go_enter Tryz.func12, Tryz.ntmps12;go_wp2;go_ret;exact ⟨by first | rfl | (simp; done) | (simp [*]; done), by repeat (first | exact Drawn0.refl _ | apply Drawn0.step)⟩
/-! ### sprref12_Lower: function 50 -/
theorem sprref12_Lower.great_own (c : UInt8) (w : World) : Calls Tryz.prog 37 #[.int .u8 (c.toNat : Int)] w fun e w' => e = .returned (.bool (Own.greatb c)) ∧ w' = w := by
 go_enter Tryz.func37, Tryz.ntmps37;go_wp2
 all_goals (go_ret; exact ⟨by unfold Own.greatb; simp [*] <;> omega, rfl⟩)
set_option maxHeartbeats 8000000 in
set_option maxRecDepth 100000 in
theorem sprref12_Lower.own (a0 : ByteArray) (w : World) (hs : a0.size ≤ 9223372036854775807) :
  Calls Tryz.prog 50 #[.string a0] w fun e w' => e = .returned (.string ⟨(a0.data.toList.map Own.lowb).toArray⟩) ∧ Below w.heap.size w w' := by
 have hconv := Lib.run_convert_string_bytes (P:=Tryz.prog) w 9 25 5 a0 Tryz.underlying9 Tryz.underlying25 Tryz.underlying5;have hb0 : Aside0 (Own.BytesAt (Lib.bytesWorld w 5 a0) w.heap.size (Own.lowTo a0 0)) := ⟨Own.bytesAt_conv w 5 a0⟩;have hw0 : Aside0 (Below w.heap.size w (Lib.bytesWorld w 5 a0)) := ⟨Own.below_bytesWorld w 5 a0⟩;go_enter Tryz.func50, Tryz.ntmps50;go_wp2;clear hconv;go_loopw [4] (fun i wr => ∃ n : Nat, i = .int .i64 n ∧ n ≤ a0.size ∧ Aside0 (Own.BytesAt wr w.heap.size (Own.lowTo a0 n)) ∧ Aside0 (Below w.heap.size w wr)) (fun i _ => a0.size - (intOf i).toNat)
 case atStart => exact ⟨0, rfl, by omega, hb0, hw0⟩
 case round =>
  clear hb0 hw0;obtain ⟨n, rfl, hn, hB, hW⟩ := hrel
  by_cases hlt : n < a0.size
  ·have hat := hB.out.at n _ (Own.lowTo_at a0 n hlt)
   have hfr := hB.out.free n (by rw [Own.lowTo_length]; exact hlt);have q1 : decide ((n : Int) < (a0.size : Int)) = true := decide_eq_true (by omega);have p5 := eq_true (show (0 : Int) ≤ (n : Int) by omega);have q5 := eq_true (show (n : Int) < (a0.size : Int) by omega);(have hz : 0 + (n : Int).toNat = n := by omega);(have hup := fun h1 h2 => hB.out.low hlt h1 h2);(have hkeep := fun h => hB.out.keep hlt h);generalize a0.data.toList[n]'hlt = c at *;have hup' := am hup;have hkeep' := am hkeep;clear hup hkeep hB
   by_cases hg : 65 ≤ (c.toNat : Int) ∧ (c.toNat : Int) ≤ 90
   ·have hg' : Own.greatb c = true := by unfold Own.greatb; simp [hg]
    obtain ⟨h65, h90⟩ := hg;(have h1 : (c.toNat : Int) + 97 - 65 = (c.toNat : Int) + 32 := by omega);rw [h1] at hup';go_wp2_with (go_at_call 37; refine (sprref12_Lower.great_own c _).mono ?_; rintro e w' ⟨rfl, rfl⟩; rw [hg']);go_roundw
    case measure => simp [intOf]; omega
    case rel => exact ⟨n + 1, rfl, by omega, ⟨hup'.out h65 h90⟩, ⟨hW.out.setCell (Nat.le_refl _) _⟩⟩
   ·have hg' : Own.greatb c = false := by unfold Own.greatb; simpa using hg
    go_wp2_with (go_at_call 37; refine (sprref12_Lower.great_own c _).mono ?_; rintro e w' ⟨rfl, rfl⟩; rw [hg']);go_roundw
    case measure => simp [intOf]; omega
    case rel => exact ⟨n + 1, rfl, by omega, ⟨hkeep'.out hg⟩, hW⟩
  ·have q1 : decide ((n : Int) < (a0.size : Int)) = false := decide_eq_false (by omega);(obtain rfl : n = a0.size := by omega);have hback := run_convert_bytes_back (P:=Tryz.prog) wr 25 9 5 ⟨w.heap.size, 0, none⟩ (grownCap w a0.size 0 5) (Own.lowTo a0 a0.size) Tryz.underlying25 Tryz.underlying5 Tryz.underlying9 (fun j hj => hB.out.off j hj);rw [Own.lowTo_length, Own.lowTo_all] at hback;go_wp2;go_ret;exact ⟨rfl, hW.out⟩
def sprref12_Lower.f (a0 : ByteArray) : Option (ByteArray) := if a0.size ≤ 9223372036854775807 then some (Own.low a0) else none
theorem sprref12_Lower.calls (a0 : ByteArray) (r : ByteArray) (w : World) (h : sprref12_Lower.f a0 = some r) :
  Calls Tryz.prog 50 #[.string a0] w fun e w' => e = .returned (.string r) ∧ Below w.heap.size w w' := by
 unfold sprref12_Lower.f at h
 by_cases h1 : a0.size ≤ 9223372036854775807
 ·rw [if_pos h1] at h;obtain rfl := Option.some.inj h;exact sprref12_Lower.own a0 w h1
 ·rw [if_neg h1] at h; cases h
/-! ### sprref12_All: function 32 -/
def sprref12_All.l0 : Nat → List (S56) → ByteArray → List ByteArray → Int → Option (List ByteArray)
 | 0, _, _, _, _ => none
 | k + 1, x0, x1, x5, x6 => if x6 < (x0.length : Int) then (if 0 ≤ x6 then ((sprref12_Lower.f ((rd_T56 x0 x6).f0)).bind fun t273 => ((sprref12_Lower.f x1).bind fun t274 => (if t273.toList = t274.toList then (if x5.length < 8796093022208 then (sprref12_All.l0 k x0 x1 (x5 ++ [(rd_T56 x0 x6).f1]) (wrap64 (x6 + 1))) else (none)) else (sprref12_All.l0 k x0 x1 x5 (wrap64 (x6 + 1)))))) else (none)) else (some x5)
def sprref12_All.f (k : Nat) (l0 : List (S56)) (a1 : ByteArray) : Option (List ByteArray) := sprref12_All.l0 k l0 a1 ([] : List ByteArray) 0
theorem sprref12_All.mono_l : ∀ k, (∀ y0 y1 y2 y3, LeO (sprref12_All.l0 k y0 y1 y2 y3) (sprref12_All.l0 (k + 1) y0 y1 y2 y3))
 | 0 => fun _ _ _ _ r h => by simp [sprref12_All.l0] at h
 | k + 1 => by
  have ih0 := sprref12_All.mono_l k
  ·intro y0 y1 y2 y3
   unfold sprref12_All.l0
   repeat' first
   | (with_reducible exact ih0 _ _ _ _)
   | (with_reducible exact LeO.refl _)
   | (with_reducible exact LeO.none _)
   | (with_reducible refine LeO.ite ?_ ?_)
   | (with_reducible refine LeO.bind ?_ (fun _ => ?_))
   | exact ih0 _ _ _ _
   | exact LeO.none _
   | refine LeO.ite ?_ ?_
   | refine LeO.bind ?_ (fun _ => ?_)
theorem sprref12_All.mono : ∀ a0 a1 k, LeO (sprref12_All.f k a0 a1) (sprref12_All.f (k + 1) a0 a1) := by
 intro a0 a1 k;have ih0 := sprref12_All.mono_l k
 unfold sprref12_All.f
 repeat' first
   | (with_reducible exact ih0 _ _ _ _)
   | (with_reducible exact LeO.refl _)
   | (with_reducible exact LeO.none _)
   | (with_reducible refine LeO.ite ?_ ?_)
   | (with_reducible refine LeO.bind ?_ (fun _ => ?_))
   | exact ih0 _ _ _ _
   | exact LeO.none _
   | refine LeO.ite ?_ ?_
   | refine LeO.bind ?_ (fun _ => ?_)
set_option maxHeartbeats 2000000 in
set_option maxRecDepth 100000 in
theorem sprref12_All.calls (k : Nat) (A0 : Option Addr) (c0 : Nat) (l0 : List (S56)) (a1 : ByteArray) (r : List ByteArray) (w : World) (hr0 : Kd.C k56 w A0 l0.length l0) (hc0 : l0.length ≤ c0) (h : sprref12_All.f k l0 a1 = some r) :
  Calls Tryz.prog 32 #[.slice A0 l0.length c0, .string a1] w fun e w' => ∃ v0_ : Value, e = .returned (v0_) ∧ Kd.R Kd.string 9 w' w.heap.size (fun _ => True) v0_ r ∧ Below w.heap.size w w' := by
 have HR0 := am hr0;have HC0 := am hc0;clear hr0 hc0;have HB := am (Below.refl w.heap.size w);have H : (sprref12_All.l0 k l0 a1 ([] : List ByteArray) 0) = some r := h;clear h;have H' := am H;clear H;go_enter Tryz.func32, Tryz.ntmps32;go_wp2;go_loopg [5, 6] k (fun kq v5 v6 w' => ∃ (x5_1 : List ByteArray) (x6_1 : Int), v6 = .int .i64 x6_1 ∧ Aside0 (sprref12_All.l0 kq l0 a1 x5_1 x6_1 = some r) ∧ Aside0 (kq ≤ k) ∧ Aside0 (Kd.R Kd.string 9 w' w.heap.size (fun _ => True) v5 x5_1) ∧ Aside0 (Below w.heap.size w w'))
 case atStart => exact ⟨(([] : List ByteArray)), (0), (by first | rfl | (simp; done) | (simp [*]; done)), H', ⟨Nat.le_refl _⟩, ⟨by first | exact Kd.R_nil _ _ _ _ _ | exact Kd.N_nil _ _ _ _ _ | exact Kd.V_nil _ _ _ _ _ | exact Kd.Q_nil _ _ _ _ _ | exact Kd.S_nil _ _ _ _ _⟩, ⟨hA HB.out⟩⟩
 case round =>
  clear H';obtain ⟨x5_1, x6_1, rfl, HA, HK1, HO_5, HB⟩ := hrel
  cases gk with
  | zero => exact absurd HA.out (by simp [sprref12_All.l0])
  | succ k1 =>
   have H := HA.out;clear HA;simp only [sprref12_All.l0] at H
   by_cases c3 : x6_1 < (l0.length : Int)
   ·rw [if_pos c3] at H
    have c3b0 : decide (x6_1 < (l0.length : Int)) = true := decide_eq_true c3;clear c3
    by_cases c4 : 0 ≤ x6_1
    ·rw [if_pos c4] at H
     have c4b0 : decide (0 ≤ x6_1) = true := decide_eq_true c4;clear c4;replace H := Option.bind_eq_some_iff.mp H;obtain ⟨t273, A50, H⟩ := H;replace H : ((sprref12_Lower.f a1).bind fun t274 => (if t273.toList = t274.toList then (if x5_1.length < 8796093022208 then (sprref12_All.l0 k1 l0 a1 (x5_1 ++ [(rd_T56 l0 x6_1).f1]) (wrap64 (x6_1 + 1))) else (none)) else (sprref12_All.l0 k1 l0 a1 x5_1 (wrap64 (x6_1 + 1))))) = some r := H;have A5 := am A50;clear A50;replace H := Option.bind_eq_some_iff.mp H;obtain ⟨t274, A60, H⟩ := H;replace H : (if t273.toList = t274.toList then (if x5_1.length < 8796093022208 then (sprref12_All.l0 k1 l0 a1 (x5_1 ++ [(rd_T56 l0 x6_1).f1]) (wrap64 (x6_1 + 1))) else (none)) else (sprref12_All.l0 k1 l0 a1 x5_1 (wrap64 (x6_1 + 1)))) = some r := H;have A6 := am A60;clear A60
     by_cases c7 : t273.toList = t274.toList
     ·rw [if_pos c7] at H
      have c7b0 : (t273.toList == t274.toList) = true := beq_iff_eq.mpr c7;have c7b1 : (t273.toList != t274.toList) = false := bne_eq_false_iff_eq.mpr c7;clear c7
      by_cases c8 : x5_1.length < 8796093022208
      ·rw [if_pos c8] at H
       have LMc8 := am c8;clear c8;obtain ⟨y276, hy276⟩ : ∃ y_ : List ByteArray, y_ = (x5_1 ++ [(rd_T56 l0 x6_1).f1]) := ⟨_, rfl⟩;(replace H : (sprref12_All.l0 k1 l0 a1 y276 (wrap64 (x6_1 + 1))) = some r := by first | (rw [hy276]; with_reducible exact H) | (have H2_ := (Option.bind_some _ _).symm.trans H; rw [hy276]; with_reducible exact H2_) | (have H2_ := (Option.bind_some _ _).symm.trans H; with_reducible exact H2_) | with_reducible exact H | (rw [hy276]; exact H) | exact H);have Ny276 := am hy276;clear hy276;have H' := am H;clear H;have p272 : 0 ≤ (x6_1 : Int) := of_decide_eq_true (by first | (with_reducible assumption) | assumption);have q272 : x6_1 < (l0.length : Int) := of_decide_eq_true (by first | (with_reducible assumption) | assumption);obtain ⟨ad272, e272, hx272_0, hx272_1⟩ := at_T56 HR0.out x6_1 p272 q272
       cases e272
       replace hx272_0 := (HB.out.cell (World.block_lt_of_cell? w _ hx272_0)).trans hx272_0;replace hx272_1 := (HB.out.cell (World.block_lt_of_cell? w _ hx272_1)).trans hx272_1;replace p272 := eq_true p272;replace q272 := eq_true q272;go_wp2_with (first | ((with_reducible refine gate_callee (f:=50) rfl ?_); refine goesL_ (some 18) rfl rfl Tryz.func50 (by kernel_rfl) rfl #[.string ((rd_T56 l0 x6_1).f0)] rfl (by (try simp only [List.map_toArray, List.map_cons, List.map_nil]); first | done | rfl | (simp only [List.length_drop, List.length_take]; rfl)) ?_; (with_reducible refine (sprref12_Lower.calls ((rd_T56 l0 x6_1).f0) t273 _ A5.out).mono ?_); rintro e w9 ⟨rfl, hb⟩; refine ⟨_, rfl, ?_⟩; have n0_ := am (Kd.R_below (rA HO_5.out) hb); have n1_ := am (below_step (hA HB.out) hb); clear HO_5; clear HB; have HO_5 := n0_; have HB := n1_; clear n0_ n1_; (try clear hb); (try clear hb2); (try clear hk); (try clear hi)) | ((with_reducible refine gate_callee (f:=50) rfl ?_); refine goesL_ (some 20) rfl rfl Tryz.func50 (by kernel_rfl) rfl #[.string a1] rfl (by (try simp only [List.map_toArray, List.map_cons, List.map_nil]); first | done | rfl | (simp only [List.length_drop, List.length_take]; rfl)) ?_; (with_reducible refine (sprref12_Lower.calls a1 t274 _ A6.out).mono ?_); rintro e w10 ⟨rfl, hb⟩; refine ⟨_, rfl, ?_⟩; have n0_ := am (Kd.R_below (rA HO_5.out) hb); have n1_ := am (below_step (hA HB.out) hb); clear HO_5; clear HB; have HO_5 := n0_; have HB := n1_; clear n0_ n1_; (try clear hb); (try clear hb2); (try clear hk); (try clear hi); have p275 : 0 ≤ (x6_1 : Int) := of_decide_eq_true (by first | (with_reducible assumption) | assumption); have q275 : x6_1 < (l0.length : Int) := of_decide_eq_true (by first | (with_reducible assumption) | assumption); obtain ⟨ad275, e275, hx275_0, hx275_1⟩ := at_T56 HR0.out x6_1 p275 q275; obtain rfl : ad272 = ad275 := (by injection e275); replace hx275_0 := (HB.out.cell (World.block_lt_of_cell? w _ hx275_0)).trans hx275_0; replace hx275_1 := (HB.out.cell (World.block_lt_of_cell? w _ hx275_1)).trans hx275_1; replace p275 := eq_true p275; replace q275 := eq_true q275) | ((with_reducible refine gate_builtin (b:=.append) (xs := #[.tmp 22, .tmp 28]) rfl ?_); at_builtin; refine Kd.R_append Kd.string (w0 := w) w.heap.size rfl (.tmp 22) (.tmp 28) 35 9 (.string ⟨#[]⟩) 16 rfl Tryz.underlying35 info9 rfl (by decide) (by omega) u5 x5_1 ((rd_T56 l0 x6_1).f1) [.string ((rd_T56 l0 x6_1).f1)] (fun _ => True) (fun _ => False) rfl rfl ?aP (fun _ hk => hk.elim) ?aF ?aO ?aB ?aS ?aL ?_; (case aP => exact rfl); (case aB => exact (hA HB.out)); (case aF => exact (fun _ _ => trivial)); (case aO => exact (rA HO_5.out)); (case aS => exact (below_size (hA HB.out))); (case aL => have := LMc8.out; omega); intro v277 w11 ho hb hg hat; rw [← Ny276.out] at ho; have n0_ := am (hb); have n1_ := am (ho); clear HB; clear HO_5; have HB := n0_; have HO278 := n1_; clear n0_ n1_; clear ho hb hg hat));go_roundg k1
       case measure => have := HK1.out; omega
       case rel => exact ⟨(y276), (wrap64 (x6_1 + 1)), (by first | rfl | (simp; done) | (simp [*]; done)), H', ⟨by have := HK1.out; omega⟩, ⟨rA HO278.out⟩, ⟨hA HB.out⟩⟩
      ·rw [if_neg c8] at H;exact absurd H (by simp)
     ·rw [if_neg c7] at H
      have c7b0 : (t273.toList == t274.toList) = false := beq_eq_false_iff_ne.mpr c7;have c7b1 : (t273.toList != t274.toList) = true := bne_iff_ne.mpr c7;have H' := am H;clear H;have p272 : 0 ≤ (x6_1 : Int) := of_decide_eq_true (by first | (with_reducible assumption) | assumption);have q272 : x6_1 < (l0.length : Int) := of_decide_eq_true (by first | (with_reducible assumption) | assumption);obtain ⟨ad272, e272, hx272_0, hx272_1⟩ := at_T56 HR0.out x6_1 p272 q272
      cases e272
      replace hx272_0 := (HB.out.cell (World.block_lt_of_cell? w _ hx272_0)).trans hx272_0;replace hx272_1 := (HB.out.cell (World.block_lt_of_cell? w _ hx272_1)).trans hx272_1;replace p272 := eq_true p272;replace q272 := eq_true q272;go_wp2_with (first | ((with_reducible refine gate_callee (f:=50) rfl ?_); refine goesL_ (some 18) rfl rfl Tryz.func50 (by kernel_rfl) rfl #[.string ((rd_T56 l0 x6_1).f0)] rfl (by (try simp only [List.map_toArray, List.map_cons, List.map_nil]); first | done | rfl | (simp only [List.length_drop, List.length_take]; rfl)) ?_; (with_reducible refine (sprref12_Lower.calls ((rd_T56 l0 x6_1).f0) t273 _ A5.out).mono ?_); rintro e w12 ⟨rfl, hb⟩; refine ⟨_, rfl, ?_⟩; have n0_ := am (Kd.R_below (rA HO_5.out) hb); have n1_ := am (below_step (hA HB.out) hb); clear HO_5; clear HB; have HO_5 := n0_; have HB := n1_; clear n0_ n1_; (try clear hb); (try clear hb2); (try clear hk); (try clear hi)) | ((with_reducible refine gate_callee (f:=50) rfl ?_); refine goesL_ (some 20) rfl rfl Tryz.func50 (by kernel_rfl) rfl #[.string a1] rfl (by (try simp only [List.map_toArray, List.map_cons, List.map_nil]); first | done | rfl | (simp only [List.length_drop, List.length_take]; rfl)) ?_; (with_reducible refine (sprref12_Lower.calls a1 t274 _ A6.out).mono ?_); rintro e w13 ⟨rfl, hb⟩; refine ⟨_, rfl, ?_⟩; have n0_ := am (Kd.R_below (rA HO_5.out) hb); have n1_ := am (below_step (hA HB.out) hb); clear HO_5; clear HB; have HO_5 := n0_; have HB := n1_; clear n0_ n1_; (try clear hb); (try clear hb2); (try clear hk); (try clear hi)));go_roundg k1
      case measure => have := HK1.out; omega
      case rel => exact ⟨(x5_1), (wrap64 (x6_1 + 1)), (by first | rfl | (simp; done) | (simp [*]; done)), H', ⟨by have := HK1.out; omega⟩, ⟨rA HO_5.out⟩, ⟨hA HB.out⟩⟩
    ·rw [if_neg c4] at H;exact absurd H (by simp)
   ·rw [if_neg c3] at H;have c3b0 : decide (x6_1 < (l0.length : Int)) = false := decide_eq_false c3;clear c3;obtain rfl := Option.some.inj H;go_wp2;go_ret;exact ⟨_, by first | rfl | (simp [errW_none, errW_some] <;> rfl) | (simp [*, errW_none, errW_some] <;> rfl), by (with_reducible repeat (first | apply Kd.R_alloc | apply Kd.R_drewN | apply Kd.R_drew)); exact HO_5.out, by repeat (first | (with_reducible first | exact HB.out | apply below_alloc | apply pw_below_drewN | apply below_drew1) | exact HB.out)⟩
/-! ### sprref19_has: function 23 -/
def sprref19_has.f (k : Nat) (l0 : List (S56)) (a1 : ByteArray) : Option (Bool) := (sprref12_All.f k l0 a1).bind fun t279 => (some (decide ((t279.length : Int) > 0)))
theorem sprref19_has.mono : ∀ a0 a1 k, LeO (sprref19_has.f k a0 a1) (sprref19_has.f (k + 1) a0 a1) := by
 intro a0 a1 k
 unfold sprref19_has.f
 repeat' first
   | (with_reducible exact sprref12_All.mono _ _ _)
   | (with_reducible exact LeO.refl _)
   | (with_reducible exact LeO.none _)
   | (with_reducible refine LeO.ite ?_ ?_)
   | (with_reducible refine LeO.bind ?_ (fun _ => ?_))
   | exact sprref12_All.mono _ _ _
   | exact LeO.none _
   | refine LeO.ite ?_ ?_
   | refine LeO.bind ?_ (fun _ => ?_)
set_option maxHeartbeats 2000000 in
set_option maxRecDepth 100000 in
theorem sprref19_has.calls (k : Nat) (A0 : Option Addr) (c0 : Nat) (l0 : List (S56)) (a1 : ByteArray) (r : Bool) (w : World) (hr0 : Kd.C k56 w A0 l0.length l0) (hc0 : l0.length ≤ c0) (h : sprref19_has.f k l0 a1 = some r) :
  Calls Tryz.prog 23 #[.slice A0 l0.length c0, .string a1] w fun e w' => e = .returned (.bool r) ∧ Below w.heap.size w w' := by
 have HR0 := am hr0;have HC0 := am hc0;clear hr0 hc0;have HB := am (Below.refl w.heap.size w);have H : ((sprref12_All.f k l0 a1).bind fun t279 => (some (decide ((t279.length : Int) > 0)))) = some r := h;clear h;replace H := Option.bind_eq_some_iff.mp H;obtain ⟨t279, A30, H⟩ := H;replace H : (some (decide ((t279.length : Int) > 0))) = some r := H;have A3 := am A30;clear A30;obtain rfl := Option.some.inj H;go_enter Tryz.func23, Tryz.ntmps23;go_wp2_with (first | ((with_reducible refine gate_callee (f:=32) rfl ?_); refine goesL_ (some 7) rfl rfl Tryz.func32 (by kernel_rfl) rfl #[.slice A0 l0.length c0, .string a1] rfl (by (try simp only [List.map_toArray, List.map_cons, List.map_nil]); first | done | rfl | (simp only [List.length_drop, List.length_take]; rfl)) ?_; (with_reducible refine (sprref12_All.calls k _ _ l0 a1 t279 _ ?side1 ?side2 A3.out).mono ?_); (case side1 => repeat (first | exact HR0.out | (with_reducible refine Kd.C_alloc ?_ _) | (with_reducible refine Kd.C_drewN ?_ _) | (with_reducible refine Kd.C_drew ?_))); (case side2 => exact HC0.out); rintro e w4 ⟨v280, rfl, ho0, hb⟩; refine ⟨_, rfl, ?_⟩; have n0_ := am (Kd.R_lower ho0 (below_size (hA HB.out))); have n1_ := am (below_step (hA HB.out) hb); clear HB; have HO281 := n0_; have HB := n1_; clear n0_ n1_; (try clear hb); (try clear hb2); (try clear hk); (try clear hi); (try clear ho0); obtain ⟨Ao5, co5, eo5⟩ := Kd.R_slice HO281.out; subst eo5));go_ret;exact ⟨by first | rfl | (simp [errW_none, errW_some] <;> rfl) | (simp [*, errW_none, errW_some] <;> rfl), by repeat (first | (with_reducible first | exact HB.out | apply below_alloc | apply pw_below_drewN | apply below_drew1) | exact HB.out)⟩
/-! ### sprref19_Plain: function 14 -/
def sprref19_Plain.l0 : Nat → List ByteArray → Int → ByteArray → ByteArray → ByteArray → List (S56) → Option (Bool)
 | 0, _, _, _, _, _, _ => none
 | k + 1, x3, x4, x283000, x283001, x283002, x283003 => if x4 < (x3.length : Int) then (if 0 ≤ x4 then ((sprref19_has.f k x283003 (rdOf ByteArray.empty x3 x4)).bind fun t287 => (if t287 = true then (some false) else (sprref19_Plain.l0 k x3 (wrap64 (x4 + 1)) x283000 x283001 x283002 x283003))) else (none)) else (some (x283001.toList == ([71, 69, 84] : List UInt8)))
def sprref19_Plain.f (k : Nat) (a0_0 : ByteArray) (a0_1 : ByteArray) (a0_2 : ByteArray) (l0_3 : List (S56)) : Option (Bool) := sprref19_Plain.l0 k (([(⟨#[82, 97, 110, 103, 101]⟩ : ByteArray), (⟨#[73, 102, 45, 77, 97, 116, 99, 104]⟩ : ByteArray), (⟨#[73, 102, 45, 78, 111, 110, 101, 45, 77, 97, 116, 99, 104]⟩ : ByteArray), (⟨#[73, 102, 45, 77, 111, 100, 105, 102, 105, 101, 100, 45, 83, 105, 110, 99, 101]⟩ : ByteArray), (⟨#[73, 102, 45, 85, 110, 109, 111, 100, 105, 102, 105, 101, 100, 45, 83, 105, 110, 99, 101]⟩ : ByteArray), (⟨#[73, 102, 45, 82, 97, 110, 103, 101]⟩ : ByteArray)] : List ByteArray)) 0 a0_0 a0_1 a0_2 l0_3
theorem sprref19_Plain.mono_l : ∀ k, (∀ y0 y1 y2 y3 y4 y5, LeO (sprref19_Plain.l0 k y0 y1 y2 y3 y4 y5) (sprref19_Plain.l0 (k + 1) y0 y1 y2 y3 y4 y5))
 | 0 => fun _ _ _ _ _ _ r h => by simp [sprref19_Plain.l0] at h
 | k + 1 => by
  have ih0 := sprref19_Plain.mono_l k
  ·intro y0 y1 y2 y3 y4 y5
   unfold sprref19_Plain.l0
   repeat' first
   | (with_reducible exact ih0 _ _ _ _ _ _)
   | (with_reducible exact sprref19_has.mono _ _ _)
   | (with_reducible exact LeO.refl _)
   | (with_reducible exact LeO.none _)
   | (with_reducible refine LeO.ite ?_ ?_)
   | (with_reducible refine LeO.bind ?_ (fun _ => ?_))
   | exact ih0 _ _ _ _ _ _
   | exact sprref19_has.mono _ _ _
   | exact LeO.none _
   | refine LeO.ite ?_ ?_
   | refine LeO.bind ?_ (fun _ => ?_)
theorem sprref19_Plain.mono : ∀ a0 a1 a2 a3 k, LeO (sprref19_Plain.f k a0 a1 a2 a3) (sprref19_Plain.f (k + 1) a0 a1 a2 a3) := by
 intro a0 a1 a2 a3 k;have ih0 := sprref19_Plain.mono_l k
 unfold sprref19_Plain.f
 repeat' first
   | (with_reducible exact ih0 _ _ _ _ _ _)
   | (with_reducible exact sprref19_has.mono _ _ _)
   | (with_reducible exact LeO.refl _)
   | (with_reducible exact LeO.none _)
   | (with_reducible refine LeO.ite ?_ ?_)
   | (with_reducible refine LeO.bind ?_ (fun _ => ?_))
   | exact ih0 _ _ _ _ _ _
   | exact sprref19_has.mono _ _ _
   | exact LeO.none _
   | refine LeO.ite ?_ ?_
   | refine LeO.bind ?_ (fun _ => ?_)
set_option maxHeartbeats 2000000 in
set_option maxRecDepth 100000 in
theorem sprref19_Plain.calls (k : Nat) (a0_0 : ByteArray) (a0_1 : ByteArray) (a0_2 : ByteArray) (A0_3 : Option Addr) (c0_3 : Nat) (l0_3 : List (S56)) (r : Bool) (w : World) (hr0_3 : Kd.C k56 w A0_3 l0_3.length l0_3) (hc0_3 : l0_3.length ≤ c0_3) (h : sprref19_Plain.f k a0_0 a0_1 a0_2 l0_3 = some r) :
  Calls Tryz.prog 14 #[.agg #[.string a0_0, .string a0_1, .string a0_2, .slice A0_3 l0_3.length c0_3]] w fun e w' => e = .returned (.bool r) ∧ Below w.heap.size w w' := by
 have hu24 := Tryz.underlying24;have HR0_3 := am hr0_3;have HC0_3 := am hc0_3;clear hr0_3 hc0_3;have HB := am (Below.refl w.heap.size w);have H : (sprref19_Plain.l0 k (([(⟨#[82, 97, 110, 103, 101]⟩ : ByteArray), (⟨#[73, 102, 45, 77, 97, 116, 99, 104]⟩ : ByteArray), (⟨#[73, 102, 45, 78, 111, 110, 101, 45, 77, 97, 116, 99, 104]⟩ : ByteArray), (⟨#[73, 102, 45, 77, 111, 100, 105, 102, 105, 101, 100, 45, 83, 105, 110, 99, 101]⟩ : ByteArray), (⟨#[73, 102, 45, 85, 110, 109, 111, 100, 105, 102, 105, 101, 100, 45, 83, 105, 110, 99, 101]⟩ : ByteArray), (⟨#[73, 102, 45, 82, 97, 110, 103, 101]⟩ : ByteArray)] : List ByteArray)) 0 a0_0 a0_1 a0_2 l0_3) = some r := h;clear h;obtain ⟨y283, hy283⟩ : ∃ y_ : List ByteArray, y_ = (([(⟨#[82, 97, 110, 103, 101]⟩ : ByteArray), (⟨#[73, 102, 45, 77, 97, 116, 99, 104]⟩ : ByteArray), (⟨#[73, 102, 45, 78, 111, 110, 101, 45, 77, 97, 116, 99, 104]⟩ : ByteArray), (⟨#[73, 102, 45, 77, 111, 100, 105, 102, 105, 101, 100, 45, 83, 105, 110, 99, 101]⟩ : ByteArray), (⟨#[73, 102, 45, 85, 110, 109, 111, 100, 105, 102, 105, 101, 100, 45, 83, 105, 110, 99, 101]⟩ : ByteArray), (⟨#[73, 102, 45, 82, 97, 110, 103, 101]⟩ : ByteArray)] : List ByteArray)) := ⟨_, rfl⟩;(replace H : (sprref19_Plain.l0 k y283 0 a0_0 a0_1 a0_2 l0_3) = some r := by first | (rw [hy283]; with_reducible exact H) | (have H2_ := (Option.bind_some _ _).symm.trans H; rw [hy283]; with_reducible exact H2_) | (have H2_ := (Option.bind_some _ _).symm.trans H; with_reducible exact H2_) | with_reducible exact H | (rw [hy283]; exact H) | exact H);have Ny283 := am hy283;clear hy283;have H' := am H;clear H;go_enter Tryz.func14, Tryz.ntmps14;go_wp2_with (first | ((with_reducible refine gate_dst (N:=1) rfl ?_); refine box_event ?hg (N:=1) ?hd (cs := #[.string a0_0, .string a0_1, .string a0_2, .slice A0_3 l0_3.length c0_3]) (t:=24) ?hr ?_; (case hd => rfl); (case hg => rfl); (case hr => first | (go_simp; done) | (go_simp; rfl)); intro gb282 hg w2 hbox hb; have n0_ := am (below_step (hA HB.out) hb); have n1_ := am (hbox); have n2_ := am ((by rw [hg]; exact (below_size (hA HB.out)) : w.heap.size ≤ gb282)); have n3_ := am ((by rw [hg]; exact (below_size (hA HB.out)) : w.heap.size ≤ gb282)); clear HB; have HB := n0_; have BK282 := n1_; have GW282 := n2_; have GE282 := n3_; clear n0_ n1_ n2_ n3_; clear hb hbox hg) | ((with_reducible refine gate_dst (N:=5) rfl ?_); refine Kd.R_lit Kd.string _ 9 ?hg (N:=5) ?hd (xs := ([(⟨#[82, 97, 110, 103, 101]⟩ : ByteArray), (⟨#[73, 102, 45, 77, 97, 116, 99, 104]⟩ : ByteArray), (⟨#[73, 102, 45, 78, 111, 110, 101, 45, 77, 97, 116, 99, 104]⟩ : ByteArray), (⟨#[73, 102, 45, 77, 111, 100, 105, 102, 105, 101, 100, 45, 83, 105, 110, 99, 101]⟩ : ByteArray), (⟨#[73, 102, 45, 85, 110, 109, 111, 100, 105, 102, 105, 101, 100, 45, 83, 105, 110, 99, 101]⟩ : ByteArray), (⟨#[73, 102, 45, 82, 97, 110, 103, 101]⟩ : ByteArray)] : List ByteArray)) (inner := [.string (⟨#[82, 97, 110, 103, 101]⟩ : ByteArray), .string (⟨#[73, 102, 45, 77, 97, 116, 99, 104]⟩ : ByteArray), .string (⟨#[73, 102, 45, 78, 111, 110, 101, 45, 77, 97, 116, 99, 104]⟩ : ByteArray), .string (⟨#[73, 102, 45, 77, 111, 100, 105, 102, 105, 101, 100, 45, 83, 105, 110, 99, 101]⟩ : ByteArray), .string (⟨#[73, 102, 45, 85, 110, 109, 111, 100, 105, 102, 105, 101, 100, 45, 83, 105, 110, 99, 101]⟩ : ByteArray), .string (⟨#[73, 102, 45, 82, 97, 110, 103, 101]⟩ : ByteArray)]) (ok := fun _ => True) (okp := fun _ => True) ?hr ?hp (fun _ hk => hk) trivial (Below.refl _ _) (Nat.le_refl _) (by simp) ?_; (case hd => rfl); (case hg => rfl); (case hr => first | (go_simp; done) | (go_simp; rfl)); (case hp => exact (Reps.one (show Kd.M Kd.string _ _ _ (⟨#[82, 97, 110, 103, 101]⟩ : ByteArray) [.string (⟨#[82, 97, 110, 103, 101]⟩ : ByteArray)] from rfl) (Reps.one (show Kd.M Kd.string _ _ _ (⟨#[73, 102, 45, 77, 97, 116, 99, 104]⟩ : ByteArray) [.string (⟨#[73, 102, 45, 77, 97, 116, 99, 104]⟩ : ByteArray)] from rfl) (Reps.one (show Kd.M Kd.string _ _ _ (⟨#[73, 102, 45, 78, 111, 110, 101, 45, 77, 97, 116, 99, 104]⟩ : ByteArray) [.string (⟨#[73, 102, 45, 78, 111, 110, 101, 45, 77, 97, 116, 99, 104]⟩ : ByteArray)] from rfl) (Reps.one (show Kd.M Kd.string _ _ _ (⟨#[73, 102, 45, 77, 111, 100, 105, 102, 105, 101, 100, 45, 83, 105, 110, 99, 101]⟩ : ByteArray) [.string (⟨#[73, 102, 45, 77, 111, 100, 105, 102, 105, 101, 100, 45, 83, 105, 110, 99, 101]⟩ : ByteArray)] from rfl) (Reps.one (show Kd.M Kd.string _ _ _ (⟨#[73, 102, 45, 85, 110, 109, 111, 100, 105, 102, 105, 101, 100, 45, 83, 105, 110, 99, 101]⟩ : ByteArray) [.string (⟨#[73, 102, 45, 85, 110, 109, 111, 100, 105, 102, 105, 101, 100, 45, 83, 105, 110, 99, 101]⟩ : ByteArray)] from rfl) (Reps.one (show Kd.M Kd.string _ _ _ (⟨#[73, 102, 45, 82, 97, 110, 103, 101]⟩ : ByteArray) [.string (⟨#[73, 102, 45, 82, 97, 110, 103, 101]⟩ : ByteArray)] from rfl) (Reps.none _ _)))))))); intro v284 w3 ho4 hb hg_ hnew_; clear hg_ hnew_; (first | rw [← Ny283.out] at ho4 | (simp only [Int.reduceToNat] at ho4; rw [← Ny283.out] at ho4)); have n0_ := am (Kd.R_lower ho4 (below_size (hA1 HB.out GE282.out))); have n1_ := am (blk_below (bA BK282.out) hb); have n2_ := am (below_step (hA1 HB.out GE282.out) hb); clear BK282; clear HB; have HO285 := n0_; have BK282 := n1_; have HB := n2_; clear n0_ n1_ n2_; clear hb ho4));go_loopg [4] k (fun kq v4 w' => ∃ (x4_1 : Int), v4 = .int .i64 x4_1 ∧ Aside0 (sprref19_Plain.l0 kq y283 x4_1 a0_0 a0_1 a0_2 l0_3 = some r) ∧ Aside0 (kq ≤ k) ∧ Aside0 (Kd.R Kd.string 9 w' w.heap.size (fun _ => True) v284 y283) ∧ Aside0 (w'.heap[gb282]? = some (.cells #[.string a0_0, .string a0_1, .string a0_2, (.slice A0_3 l0_3.length c0_3)] 24 (0, 0))) ∧ Aside0 (Below w.heap.size w w'))
 case atStart => exact ⟨(0), (by first | rfl | (simp; done) | (simp [*]; done)), H', ⟨Nat.le_refl _⟩, ⟨rA HO285.out⟩, ⟨bA BK282.out⟩, ⟨hA1 HB.out GE282.out⟩⟩
 case round =>
  clear H';obtain ⟨x4_1, rfl, HA, HK1, HO_3, BK282, HB⟩ := hrel
  cases gk with
  | zero => exact absurd HA.out (by simp [sprref19_Plain.l0])
  | succ k1 =>
   have H := HA.out;clear HA;simp only [sprref19_Plain.l0] at H
   by_cases c5 : x4_1 < (y283.length : Int)
   ·rw [if_pos c5] at H
    have c5b0 : decide (x4_1 < (y283.length : Int)) = true := decide_eq_true c5;clear c5
    by_cases c6 : 0 ≤ x4_1
    ·rw [if_pos c6] at H
     have c6b0 : decide (0 ≤ x4_1) = true := decide_eq_true c6;clear c6;replace H := Option.bind_eq_some_iff.mp H;obtain ⟨t287, A70, H⟩ := H;replace H : (if t287 = true then (some false) else (sprref19_Plain.l0 k1 y283 (wrap64 (x4_1 + 1)) a0_0 a0_1 a0_2 l0_3)) = some r := H;have A7 := am A70;clear A70
     by_cases c8 : t287 = true
     ·subst c8
      (have H1 : (some false) = some r := by rw [if_pos rfl] at H; exact H);clear H;have H := H1;clear H1;obtain rfl := Option.some.inj H;obtain ⟨Ao9, co9, eo9⟩ := Kd.R_slice HO_3.out;subst eo9;(try go_wp2);have n0_ := am (Kd.R_drew HO_3.out);have n1_ := am (blk_drew BK282.out);have n2_ := am (below_drew1 HB.out);clear HO_3;clear BK282;clear HB;have HO_3 := n0_;have BK282 := n1_;have HB := n2_;clear n0_ n1_ n2_;have p286 : 0 ≤ (x4_1 : Int) := of_decide_eq_true (by first | (with_reducible assumption) | assumption);have q286 : x4_1 < (y283.length : Int) := of_decide_eq_true (by first | (with_reducible assumption) | assumption);obtain ⟨ad286, e286, hx286_0⟩ := Kd.at_string (Kd.R_reads' HO_3.out).2.2 x4_1 p286 q286
      cases e286
      replace p286 := eq_true p286;replace q286 := eq_true q286;refine start_ (n:=7) (S:=fun w' => w'.cell? ⟨gb282, 0, none⟩ = some (.string a0_0) ∧ w'.cell? ⟨gb282, 1, none⟩ = some (.string a0_1) ∧ w'.cell? ⟨gb282, 2, none⟩ = some (.string a0_2) ∧ w'.cell? ⟨gb282, 3, none⟩ = some (.slice A0_3 l0_3.length c0_3) ∧ w'.cell? (ad286.add (x4_1).toNat) = some (.string (rdOf ByteArray.empty y283 x4_1))) (ds := []) #[Z,Z,Z,Z,Z,Z,Z] (by kernel_rfl) rfl rfl ⟨(blk_cell BK282.out 0).trans rfl, (blk_cell BK282.out 1).trans rfl, (blk_cell BK282.out 2).trans rfl, (blk_cell BK282.out 3).trans rfl, hx286_0⟩ (fun hHeld => ?_);generalize wr.drew = w10 at HO_3 BK282 HB hx286_0 hHeld ⊢;refine pure_ (i:=0) (N:=some 12) (v:=?_) (a':=?_) #[Y,Z,Z,Z,Z,Z,Z] rfl rfl (by kernel_rfl) (fun _ _ _ h => h) (Or.inl ⟨by rfl, ?_⟩) ?_ ?_;rotate_left;(·intro w';go_simp;(with_reducible rfl));rotate_left;(·simp only [Act.put,sA,sB,sC,i64_w,i32_w];rfl)
      refine pure_ (i:=2) (N:=some 14) (v:=?_) (a':=?_) #[Y,Z,Y,Z,Z,Z,Z] rfl rfl (by kernel_rfl) (fun _ _ _ h => h) (Or.inl ⟨by rfl, ?_⟩) ?_ ?_;rotate_left;(·intro w';go_simp;(with_reducible rfl));rotate_left;(·simp only [Act.put,sA,sB,sC,i64_w,i32_w];rfl)
      refine pure_ (i:=3) (N:=some 15) (v:=?_) (a':=?_) #[Y,Z,Y,Y,Z,Z,Z] rfl rfl (by kernel_rfl) (fun _ _ _ h => h) (Or.inl ⟨by rfl, ?_⟩) ?_ ?_;rotate_left;(·intro w';go_simp;(with_reducible rfl));rotate_left;(·simp only [Act.put,sA,sB,sC,i64_w,i32_w];rfl)
      refine pure_ (i:=4) (N:=some 16) (v:=?_) (a':=?_) #[Y,Z,Y,Y,Y,Z,Z] rfl rfl (by kernel_rfl) (fun _ _ _ h => h) (Or.inl ⟨by rfl, ?_⟩) ?_ ?_;rotate_left;(·intro w';go_simp;(with_reducible rfl));rotate_left;(·simp only [Act.put,sA,sB,sC,i64_w,i32_w];rfl)
      refine take_ (i:=1) (N:=some 13) (v:=?_) (a':=?_) #[Y,Y,Y,Y,Y,Z,Z] rfl rfl (by kernel_rfl) (fun _ _ _ h => h) (Or.inl ⟨by rfl, ?_⟩) hHeld ?_ ?_;rotate_left;(·rintro w' ⟨s0, s1, s2, s3, s4⟩;go_simp;(with_reducible rfl));rotate_left;(·simp only [Act.put,sA,sB,sC,i64_w,i32_w];rfl)
      refine take_ (i:=5) (N:=some 17) (v:=?_) (a':=?_) #[Y,Y,Y,Y,Y,Y,Z] rfl rfl (by kernel_rfl) (fun _ _ _ h => h) (Or.inl ⟨by rfl, ?_⟩) hHeld ?_ ?_;rotate_left;(·rintro w' ⟨s0, s1, s2, s3, s4⟩;go_simp;(with_reducible rfl));rotate_left;(·simp only [Act.put,sA,sB,sC,i64_w,i32_w];rfl)
      refine one_ (i:=6) (N:=some 18) #[Y,Y,Y,Y,Y,Y,Y] rfl rfl (by kernel_rfl) (by decide) (fun K hK => ?_);refine goes_ Tryz.func23 (by kernel_rfl) rfl #[.slice A0_3 l0_3.length c0_3, .string (rdOf ByteArray.empty y283 x4_1)] (by rfl) rfl rfl (by (try simp only [List.map_toArray, List.map_cons, List.map_nil]); first | done | rfl | (simp only [List.length_drop, List.length_take]; rfl)) ?_;(with_reducible refine (sprref19_has.calls k1 _ _ l0_3 (rdOf ByteArray.empty y283 x4_1) true _ ?side1 ?side2 A7.out).mono ?_)
      (case side1 => exact cA (Kd.C_below HR0_3.out HB.out))
      (case side2 => exact HC0_3.out)
      rintro e w11 ⟨rfl, hb⟩;have HS4_ := (hb.cell (World.block_lt_of_cell? _ _ (hHeld.2.2.2.2))).trans (hHeld.2.2.2.2);refine ⟨_, rfl, ?_⟩;have n0_ := am (Kd.R_below (rA HO_3.out) hb);have n1_ := am (blk_below (bA BK282.out) hb);have n2_ := am (below_step (hA1 HB.out GE282.out) hb);clear HO_3;clear BK282;clear HB;have HO_3 := n0_;have BK282 := n1_;have HB := n2_;clear n0_ n1_ n2_
      (try clear hb)
      (try clear hb2)
      (try clear hk)
      (try clear hi)
      refine hK.out _ _ ⟨(blk_cell BK282.out 0).trans rfl, (blk_cell BK282.out 1).trans rfl, (blk_cell BK282.out 2).trans rfl, (blk_cell BK282.out 3).trans rfl, HS4_⟩ (fun hHeld => ?_);clear hK K;refine norm_ (a':=?_) ?_ ?_;rotate_left;(·show Act.put _ (some 18) _ = _;simp only [Act.put,sA,sB,sC,i64_w,i32_w];rfl)
      refine done_ (by kernel_rfl) ?_;(try go_wp2);go_ret;exact ⟨by first | rfl | (simp [errW_none, errW_some] <;> rfl) | (simp [*, errW_none, errW_some] <;> rfl), by repeat (first | (with_reducible first | exact HB.out | apply below_alloc | apply pw_below_drewN | apply below_drew1 | refine below_set ?_ GE282.out) | exact HB.out)⟩
     ·replace c8 := Bool.eq_false_iff.mpr c8
      subst c8;(have H1 : (sprref19_Plain.l0 k1 y283 (wrap64 (x4_1 + 1)) a0_0 a0_1 a0_2 l0_3) = some r := by rw [if_neg (show ¬ (false = true) by decide)] at H; exact H);clear H;have H := H1;clear H1;have H' := am H;clear H;obtain ⟨Ao12, co12, eo12⟩ := Kd.R_slice HO_3.out;subst eo12;(try go_wp2);have n0_ := am (Kd.R_drew HO_3.out);have n1_ := am (blk_drew BK282.out);have n2_ := am (below_drew1 HB.out);clear HO_3;clear BK282;clear HB;have HO_3 := n0_;have BK282 := n1_;have HB := n2_;clear n0_ n1_ n2_;have p286 : 0 ≤ (x4_1 : Int) := of_decide_eq_true (by first | (with_reducible assumption) | assumption);have q286 : x4_1 < (y283.length : Int) := of_decide_eq_true (by first | (with_reducible assumption) | assumption);obtain ⟨ad286, e286, hx286_0⟩ := Kd.at_string (Kd.R_reads' HO_3.out).2.2 x4_1 p286 q286
      cases e286
      replace p286 := eq_true p286;replace q286 := eq_true q286;refine start_ (n:=7) (S:=fun w' => w'.cell? ⟨gb282, 0, none⟩ = some (.string a0_0) ∧ w'.cell? ⟨gb282, 1, none⟩ = some (.string a0_1) ∧ w'.cell? ⟨gb282, 2, none⟩ = some (.string a0_2) ∧ w'.cell? ⟨gb282, 3, none⟩ = some (.slice A0_3 l0_3.length c0_3) ∧ w'.cell? (ad286.add (x4_1).toNat) = some (.string (rdOf ByteArray.empty y283 x4_1))) (ds := []) #[Z,Z,Z,Z,Z,Z,Z] (by kernel_rfl) rfl rfl ⟨(blk_cell BK282.out 0).trans rfl, (blk_cell BK282.out 1).trans rfl, (blk_cell BK282.out 2).trans rfl, (blk_cell BK282.out 3).trans rfl, hx286_0⟩ (fun hHeld => ?_);generalize wr.drew = w13 at HO_3 BK282 HB hx286_0 hHeld ⊢;refine pure_ (i:=0) (N:=some 12) (v:=?_) (a':=?_) #[Y,Z,Z,Z,Z,Z,Z] rfl rfl (by kernel_rfl) (fun _ _ _ h => h) (Or.inl ⟨by rfl, ?_⟩) ?_ ?_;rotate_left;(·intro w';go_simp;(with_reducible rfl));rotate_left;(·simp only [Act.put,sA,sB,sC,i64_w,i32_w];rfl)
      refine pure_ (i:=2) (N:=some 14) (v:=?_) (a':=?_) #[Y,Z,Y,Z,Z,Z,Z] rfl rfl (by kernel_rfl) (fun _ _ _ h => h) (Or.inl ⟨by rfl, ?_⟩) ?_ ?_;rotate_left;(·intro w';go_simp;(with_reducible rfl));rotate_left;(·simp only [Act.put,sA,sB,sC,i64_w,i32_w];rfl)
      refine pure_ (i:=3) (N:=some 15) (v:=?_) (a':=?_) #[Y,Z,Y,Y,Z,Z,Z] rfl rfl (by kernel_rfl) (fun _ _ _ h => h) (Or.inl ⟨by rfl, ?_⟩) ?_ ?_;rotate_left;(·intro w';go_simp;(with_reducible rfl));rotate_left;(·simp only [Act.put,sA,sB,sC,i64_w,i32_w];rfl)
      refine pure_ (i:=4) (N:=some 16) (v:=?_) (a':=?_) #[Y,Z,Y,Y,Y,Z,Z] rfl rfl (by kernel_rfl) (fun _ _ _ h => h) (Or.inl ⟨by rfl, ?_⟩) ?_ ?_;rotate_left;(·intro w';go_simp;(with_reducible rfl));rotate_left;(·simp only [Act.put,sA,sB,sC,i64_w,i32_w];rfl)
      refine take_ (i:=1) (N:=some 13) (v:=?_) (a':=?_) #[Y,Y,Y,Y,Y,Z,Z] rfl rfl (by kernel_rfl) (fun _ _ _ h => h) (Or.inl ⟨by rfl, ?_⟩) hHeld ?_ ?_;rotate_left;(·rintro w' ⟨s0, s1, s2, s3, s4⟩;go_simp;(with_reducible rfl));rotate_left;(·simp only [Act.put,sA,sB,sC,i64_w,i32_w];rfl)
      refine take_ (i:=5) (N:=some 17) (v:=?_) (a':=?_) #[Y,Y,Y,Y,Y,Y,Z] rfl rfl (by kernel_rfl) (fun _ _ _ h => h) (Or.inl ⟨by rfl, ?_⟩) hHeld ?_ ?_;rotate_left;(·rintro w' ⟨s0, s1, s2, s3, s4⟩;go_simp;(with_reducible rfl));rotate_left;(·simp only [Act.put,sA,sB,sC,i64_w,i32_w];rfl)
      refine one_ (i:=6) (N:=some 18) #[Y,Y,Y,Y,Y,Y,Y] rfl rfl (by kernel_rfl) (by decide) (fun K hK => ?_);refine goes_ Tryz.func23 (by kernel_rfl) rfl #[.slice A0_3 l0_3.length c0_3, .string (rdOf ByteArray.empty y283 x4_1)] (by rfl) rfl rfl (by (try simp only [List.map_toArray, List.map_cons, List.map_nil]); first | done | rfl | (simp only [List.length_drop, List.length_take]; rfl)) ?_;(with_reducible refine (sprref19_has.calls k1 _ _ l0_3 (rdOf ByteArray.empty y283 x4_1) false _ ?side1 ?side2 A7.out).mono ?_)
      (case side1 => exact cA (Kd.C_below HR0_3.out HB.out))
      (case side2 => exact HC0_3.out)
      rintro e w14 ⟨rfl, hb⟩;have HS4_ := (hb.cell (World.block_lt_of_cell? _ _ (hHeld.2.2.2.2))).trans (hHeld.2.2.2.2);refine ⟨_, rfl, ?_⟩;have n0_ := am (Kd.R_below (rA HO_3.out) hb);have n1_ := am (blk_below (bA BK282.out) hb);have n2_ := am (below_step (hA1 HB.out GE282.out) hb);clear HO_3;clear BK282;clear HB;have HO_3 := n0_;have BK282 := n1_;have HB := n2_;clear n0_ n1_ n2_
      (try clear hb)
      (try clear hb2)
      (try clear hk)
      (try clear hi)
      refine hK.out _ _ ⟨(blk_cell BK282.out 0).trans rfl, (blk_cell BK282.out 1).trans rfl, (blk_cell BK282.out 2).trans rfl, (blk_cell BK282.out 3).trans rfl, HS4_⟩ (fun hHeld => ?_);clear hK K;refine norm_ (a':=?_) ?_ ?_;rotate_left;(·show Act.put _ (some 18) _ = _;simp only [Act.put,sA,sB,sC,i64_w,i32_w];rfl)
      refine done_ (by kernel_rfl) ?_;(try go_wp2);go_roundg k1
      case measure => have := HK1.out; omega
      case rel => exact ⟨(wrap64 (x4_1 + 1)), (by first | rfl | (simp; done) | (simp [*]; done)), H', ⟨by have := HK1.out; omega⟩, ⟨rA HO_3.out⟩, ⟨bA BK282.out⟩, ⟨hA1 HB.out GE282.out⟩⟩
    ·rw [if_neg c6] at H;exact absurd H (by simp)
   ·rw [if_neg c5] at H;have c5b0 : decide (x4_1 < (y283.length : Int)) = false := decide_eq_false c5;clear c5;obtain rfl := Option.some.inj H;obtain ⟨Ao15, co15, eo15⟩ := Kd.R_slice HO_3.out;subst eo15;have hcz16_0 := bC BK282.out 0 rfl;have hcz16_1 := bC BK282.out 1 rfl;have hcz16_2 := bC BK282.out 2 rfl;have hcz16_3 := bC BK282.out 3 rfl;have hfz16_0 := blk_frozen BK282.out 0;have hfz16_1 := blk_frozen BK282.out 1;have hfz16_2 := blk_frozen BK282.out 2;have hfz16_3 := blk_frozen BK282.out 3;go_wp2;go_ret;exact ⟨by first | rfl | (simp [errW_none, errW_some] <;> rfl) | (simp [*, errW_none, errW_some] <;> rfl), by repeat (first | (with_reducible first | exact HB.out | apply below_alloc | apply pw_below_drewN | apply below_drew1 | refine below_set ?_ GE282.out) | exact HB.out)⟩
/-! ### sprref12_piece: function 84 -/
def sprref12_piece.f (k : Nat) (l0 : List ByteArray) (a1 : ByteArray) : Option (List ByteArray) := (sprref12_Trim.f k a1).bind fun t288 => (if t288.toList = ([] : List UInt8) then (some l0) else (if l0.length < 8796093022208 then (some (l0 ++ [t288])) else (none)))
theorem sprref12_piece.mono : ∀ a0 a1 k, LeO (sprref12_piece.f k a0 a1) (sprref12_piece.f (k + 1) a0 a1) := by
 intro a0 a1 k
 unfold sprref12_piece.f
 repeat' first
   | (with_reducible exact sprref12_Trim.mono _ _)
   | (with_reducible exact LeO.refl _)
   | (with_reducible exact LeO.none _)
   | (with_reducible refine LeO.ite ?_ ?_)
   | (with_reducible refine LeO.bind ?_ (fun _ => ?_))
   | exact sprref12_Trim.mono _ _
   | exact LeO.none _
   | refine LeO.ite ?_ ?_
   | refine LeO.bind ?_ (fun _ => ?_)
set_option maxHeartbeats 2000000 in
set_option maxRecDepth 100000 in
theorem sprref12_piece.calls (k : Nat) (P0_ : Nat → Prop) (u9000_ : Value) (l0 : List ByteArray) (a1 : ByteArray) (r : List ByteArray) (w0 w : World) (hB : Below w0.heap.size w0 w) (ho0 : Kd.R Kd.string 9 w w0.heap.size P0_ u9000_ l0) (h : sprref12_piece.f k l0 a1 = some r) :
  Calls Tryz.prog 84 #[u9000_, .string a1] w fun e w' => ∃ v0_ : Value, e = .returned (v0_) ∧ Kd.R Kd.string 9 w' w0.heap.size (fun k_ => (P0_ k_ ∨ w.heap.size ≤ k_)) v0_ r ∧ Below w0.heap.size w0 w' ∧ Kept w w' (fun k_ => P0_ k_) := by
 have HO0 := am (show Kd.R Kd.string 9 w w0.heap.size (fun k_ => (P0_ k_ ∨ w.heap.size ≤ k_)) u9000_ l0 from Kd.R_mono ho0 (fun k_ hk => (.inl hk)));have HK := am (Kept.refl w (fun k_ => P0_ k_));have HW0 := am hB.size;have HB := am hB;clear hB;have H : ((sprref12_Trim.f k a1).bind fun t288 => (if t288.toList = ([] : List UInt8) then (some l0) else (if l0.length < 8796093022208 then (some (l0 ++ [t288])) else (none)))) = some r := h;clear h;replace H := Option.bind_eq_some_iff.mp H;obtain ⟨t288, A30, H⟩ := H;replace H : (if t288.toList = ([] : List UInt8) then (some l0) else (if l0.length < 8796093022208 then (some (l0 ++ [t288])) else (none))) = some r := H;have A3 := am A30;clear A30
 by_cases c4 : t288.toList = ([] : List UInt8)
 ·rw [if_pos c4] at H;have c4b0 : (t288.toList == ([] : List UInt8)) = true := beq_iff_eq.mpr c4;have c4b1 : (t288.toList != ([] : List UInt8)) = false := bne_eq_false_iff_eq.mpr c4;clear c4;obtain rfl := Option.some.inj H;go_enter Tryz.func84, Tryz.ntmps84;go_wp2_with (first | ((with_reducible refine gate_callee (f:=54) rfl ?_); refine goesL_ (some 6) rfl rfl Tryz.func54 (by kernel_rfl) rfl #[.string a1] rfl (by (try simp only [List.map_toArray, List.map_cons, List.map_nil]); first | done | rfl | (simp only [List.length_drop, List.length_take]; rfl)) ?_; (with_reducible refine (sprref12_Trim.calls k a1 t288 _ A3.out).mono ?_); rintro e w' ⟨rfl, ⟨nd, rfl⟩⟩; refine ⟨_, rfl, ?_⟩));go_ret;exact ⟨_, by first | rfl | (simp [errW_none, errW_some] <;> rfl) | (simp [*, errW_none, errW_some] <;> rfl), by (with_reducible repeat (first | apply Kd.R_alloc | apply Kd.R_drewN | apply Kd.R_drew)); exact HO0.out, by repeat (first | (with_reducible first | exact HB.out | apply below_alloc | apply pw_below_drewN | apply below_drew1) | exact HB.out), by repeat (first | (with_reducible first | exact HK.out | apply Kept.alloc | apply Kept.drewN | apply Kept.drew) | exact HK.out)⟩
 ·rw [if_neg c4] at H
  have c4b0 : (t288.toList == ([] : List UInt8)) = false := beq_eq_false_iff_ne.mpr c4;have c4b1 : (t288.toList != ([] : List UInt8)) = true := bne_iff_ne.mpr c4
  by_cases c5 : l0.length < 8796093022208
  ·rw [if_pos c5] at H;have LMc5 := am c5;clear c5;obtain ⟨y289, hy289⟩ : ∃ y_ : List ByteArray, y_ = (l0 ++ [t288]) := ⟨_, rfl⟩;(replace H : (some y289) = some r := by first | (rw [hy289]; with_reducible exact H) | (have H2_ := (Option.bind_some _ _).symm.trans H; rw [hy289]; with_reducible exact H2_) | (have H2_ := (Option.bind_some _ _).symm.trans H; with_reducible exact H2_) | with_reducible exact H | (rw [hy289]; exact H) | exact H);have Ny289 := am hy289;clear hy289;obtain rfl := Option.some.inj H;go_enter Tryz.func84, Tryz.ntmps84;go_wp2_with (first | ((with_reducible refine gate_callee (f:=54) rfl ?_); refine goesL_ (some 6) rfl rfl Tryz.func54 (by kernel_rfl) rfl #[.string a1] rfl (by (try simp only [List.map_toArray, List.map_cons, List.map_nil]); first | done | rfl | (simp only [List.length_drop, List.length_take]; rfl)) ?_; (with_reducible refine (sprref12_Trim.calls k a1 t288 _ A3.out).mono ?_); rintro e w' ⟨rfl, ⟨nd, rfl⟩⟩; refine ⟨_, rfl, ?_⟩) | ((with_reducible refine gate_builtin (b:=.append) (xs := #[.tmp 10, .tmp 12]) rfl ?_); at_builtin; refine Kd.R_append Kd.string (w0 := w0) w0.heap.size rfl (.tmp 10) (.tmp 12) 35 9 (.string ⟨#[]⟩) 16 rfl Tryz.underlying35 info9 rfl (by decide) (by omega) u9000_ l0 t288 [.string t288] (fun k_ => (P0_ k_ ∨ w.heap.size ≤ k_)) (fun _ => False) rfl rfl ?aP (fun _ hk => hk.elim) ?aF ?aO ?aB ?aS ?aL ?_; (case aP => exact rfl); (case aB => exact (hA HB.out)); (case aF => exact (fun k_ hk => (.inr (Nat.le_trans (by first | exact HK.out.1 | exact (show Kept w _ (fun k_ => P0_ k_) from by repeat (first | (with_reducible first | exact HK.out | apply Kept.alloc | apply Kept.drewN | apply Kept.drew) | exact HK.out)).1) hk)))); (case aO => exact (rA HO0.out)); (case aS => exact (below_size (hA HB.out))); (case aL => have := LMc5.out; omega); intro v290 w6 ho hb hg hat; rw [← Ny289.out] at ho; have n0_ := am (hb); have n1_ := am (Kept.of_grown (S:=(fun k_ => P0_ k_)) hg (by repeat (first | (with_reducible first | exact HK.out | apply Kept.alloc | apply Kept.drewN | apply Kept.drew) | exact HK.out)) (fun k_ e_ => (HO0.out.1 k_ e_))); have n2_ := am (ho); clear HB; clear HK; clear HO0; have HB := n0_; have HK := n1_; have HO291 := n2_; clear n0_ n1_ n2_; clear ho hb hg hat));go_ret;exact ⟨_, by first | rfl | (simp [errW_none, errW_some] <;> rfl) | (simp [*, errW_none, errW_some] <;> rfl), by (with_reducible repeat (first | apply Kd.R_alloc | apply Kd.R_drewN | apply Kd.R_drew)); exact HO291.out, by repeat (first | (with_reducible first | exact HB.out | apply below_alloc | apply pw_below_drewN | apply below_drew1) | exact HB.out), by repeat (first | (with_reducible first | exact HK.out | apply Kept.alloc | apply Kept.drewN | apply Kept.drew) | exact HK.out)⟩
  ·rw [if_neg c5] at H;exact absurd H (by simp)
end Go.Proofs.YtbnlglfddglceaaGreatDoor.Q
