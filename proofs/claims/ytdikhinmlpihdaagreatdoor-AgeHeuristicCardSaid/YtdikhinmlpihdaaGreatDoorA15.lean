-- Written by a program of this session's (wip/xprint.py), out of the seat's translation.
import Derived.Test.YtdikhinmlpihdaaGreatDoorA0
import Derived.Test.YtdikhinmlpihdaaGreatDoorA8
import Derived.Test.YtdikhinmlpihdaaGreatDoorA11
import Derived.Test.YtdikhinmlpihdaaGreatDoorA12
import Derived.Test.YtdikhinmlpihdaaGreatDoorA13
namespace Go.Proofs.YtdikhinmlpihdaaGreatDoor.A
open Go.RowKit Go.Proofs.YtdikhinmlpihdaaGreatDoorW.PrintWords Go.Proofs.YtdikhinmlpihdaaGreatDoorW.PrintLast Go.Proofs.YtdikhinmlpihdaaGreatDoorW.PrintMore
open Go.Proofs.YtdikhinmlpihdaaGreatDoor.Own (Y Z sA sB sC)
attribute [local go_sem] max2_int min2_int max_two min_two max_three min_three max_four min_four   -- for this text's walks alone
set_option linter.unusedVariables false
set_option linter.unusedSimpArgs false
/-! ### sprlaw19_AgeHeuristic: function 5 -/
mutual
def sprlaw19_AgeHeuristic.j0 : Nat → Int → Int → Int → Bool → Option (Bool)
 | 0, _, _, _, _ => none
 | k + 1, x0, x1, x2, x30 => if x30 = true then ((sprlaw19_first.f k).bind fun t434 => (some t434)) else ((date_Print.f k x0).bind fun bt435 => ((date_Print.f k (wrap64 (x0 - x1))).bind fun bt437 => (if bt435.2 = 0 then (sprlaw19_AgeHeuristic.j1 k x0 x1 x2 bt435.1 bt437.1 (bt437.2 != 0)) else (sprlaw19_AgeHeuristic.j1 k x0 x1 x2 bt435.1 bt437.1 true))))
def sprlaw19_AgeHeuristic.j1 : Nat → Int → Int → Int → ByteArray → ByteArray → Bool → Option (Bool)
 | 0, _, _, _, _, _, _ => none
 | k + 1, x0, x1, x2, x7, x9, x49 => if x49 = true then (some false) else ((some (([(⟨(⟨#[68, 97, 116, 101]⟩ : ByteArray), x7⟩ : S35), (⟨(⟨#[76, 97, 115, 116, 45, 77, 111, 100, 105, 102, 105, 101, 100]⟩ : ByteArray), x9⟩ : S35)] : List (S35)) : List (S35))).bind fun y439 => ((some (([] : List (S35)) : List (S35))).bind fun y442 => (if y442.length + y439.length < 4398046511104 then ((some (y442 ++ y439 : List (S35))).bind fun y445 => (if y445.length < 4398046511104 then ((some (y445 ++ [(⟨(⟨#[67, 97, 99, 104, 101, 45, 67, 111, 110, 116, 114, 111, 108]⟩ : ByteArray), (⟨#[109, 97, 120, 45, 97, 103, 101, 61, 48]⟩ : ByteArray)⟩ : S35)] : List (S35))).bind fun y448 => ((age_Usual.f x2).bind fun t451 => (if t451 = true then (sprlaw19_AgeHeuristic.j2 k x0 x2 y439 y448 (mn (wrap64 (Int.tdiv x1 10)) 604800)) else (sprlaw19_AgeHeuristic.j2 k x0 x2 y439 y448 0)))) else (none))) else (none))))
def sprlaw19_AgeHeuristic.j2 : Nat → Int → Int → List (S35) → List (S35) → Int → Option (Bool)
 | 0, _, _, _, _, _ => none
 | k + 1, x0, x2, x11, x12, x13 => (sprlaw19_first.f k).bind fun t452 => (if t452 = true then ((age_Life.f k false x2 x11 x0).bind fun t453 => (if t453 = x13 then ((age_Life.f k false x2 x12 x0).bind fun t454 => (if t454 = 0 then ((age_Explicit.f k true x11).bind fun t455 => (some (!t455))) else (some false))) else (some false))) else (some false))
end
def sprlaw19_AgeHeuristic.f (k : Nat) (a0 : Int) (a1 : Int) (a2 : Int) : Option (Bool) := (sprlaw19_first.f k).bind fun t433 => (if t433 = true then (if a0 < 0 then (sprlaw19_AgeHeuristic.j0 k a0 a1 a2 true) else (if a0 > 1073741824 then (sprlaw19_AgeHeuristic.j0 k a0 a1 a2 true) else (if a1 < 0 then (sprlaw19_AgeHeuristic.j0 k a0 a1 a2 true) else (sprlaw19_AgeHeuristic.j0 k a0 a1 a2 (decide (a1 > a0)))))) else (some false))
theorem sprlaw19_AgeHeuristic.mono_l : ∀ k, (∀ y0 y1 y2 y3, LeO (sprlaw19_AgeHeuristic.j0 k y0 y1 y2 y3) (sprlaw19_AgeHeuristic.j0 (k + 1) y0 y1 y2 y3)) ∧ (∀ y0 y1 y2 y3 y4 y5, LeO (sprlaw19_AgeHeuristic.j1 k y0 y1 y2 y3 y4 y5) (sprlaw19_AgeHeuristic.j1 (k + 1) y0 y1 y2 y3 y4 y5)) ∧ (∀ y0 y1 y2 y3 y4, LeO (sprlaw19_AgeHeuristic.j2 k y0 y1 y2 y3 y4) (sprlaw19_AgeHeuristic.j2 (k + 1) y0 y1 y2 y3 y4))
 | 0 => ⟨fun _ _ _ _ r h => by simp [sprlaw19_AgeHeuristic.j0] at h, fun _ _ _ _ _ _ r h => by simp [sprlaw19_AgeHeuristic.j1] at h, fun _ _ _ _ _ r h => by simp [sprlaw19_AgeHeuristic.j2] at h⟩
 | k + 1 => by
  obtain ⟨ih0, ih1, ih2⟩ := sprlaw19_AgeHeuristic.mono_l k;refine ⟨?_, ?_, ?_⟩
  ·intro y0 y1 y2 y3
   unfold sprlaw19_AgeHeuristic.j0
   repeat' first
   | (with_reducible exact ih0 _ _ _ _)
   | (with_reducible exact ih1 _ _ _ _ _ _)
   | (with_reducible exact ih2 _ _ _ _ _)
   | (with_reducible exact age_Explicit.mono _ _ _)
   | (with_reducible exact age_Life.mono _ _ _ _ _)
   | (with_reducible exact date_Print.mono _ _)
   | (with_reducible exact sprlaw19_first.mono _)
   | (with_reducible exact LeO.refl _)
   | (with_reducible exact LeO.none _)
   | (with_reducible refine LeO.ite ?_ ?_)
   | (with_reducible refine LeO.bind ?_ (fun _ => ?_))
   | exact ih0 _ _ _ _
   | exact ih1 _ _ _ _ _ _
   | exact ih2 _ _ _ _ _
   | exact age_Explicit.mono _ _ _
   | exact age_Life.mono _ _ _ _ _
   | exact date_Print.mono _ _
   | exact sprlaw19_first.mono _
   | exact LeO.none _
   | refine LeO.ite ?_ ?_
   | refine LeO.bind ?_ (fun _ => ?_)
  ·intro y0 y1 y2 y3 y4 y5
   unfold sprlaw19_AgeHeuristic.j1
   repeat' first
   | (with_reducible exact ih0 _ _ _ _)
   | (with_reducible exact ih1 _ _ _ _ _ _)
   | (with_reducible exact ih2 _ _ _ _ _)
   | (with_reducible exact age_Explicit.mono _ _ _)
   | (with_reducible exact age_Life.mono _ _ _ _ _)
   | (with_reducible exact date_Print.mono _ _)
   | (with_reducible exact sprlaw19_first.mono _)
   | (with_reducible exact LeO.refl _)
   | (with_reducible exact LeO.none _)
   | (with_reducible refine LeO.ite ?_ ?_)
   | (with_reducible refine LeO.bind ?_ (fun _ => ?_))
   | exact ih0 _ _ _ _
   | exact ih1 _ _ _ _ _ _
   | exact ih2 _ _ _ _ _
   | exact age_Explicit.mono _ _ _
   | exact age_Life.mono _ _ _ _ _
   | exact date_Print.mono _ _
   | exact sprlaw19_first.mono _
   | exact LeO.none _
   | refine LeO.ite ?_ ?_
   | refine LeO.bind ?_ (fun _ => ?_)
  ·intro y0 y1 y2 y3 y4
   unfold sprlaw19_AgeHeuristic.j2
   repeat' first
   | (with_reducible exact ih0 _ _ _ _)
   | (with_reducible exact ih1 _ _ _ _ _ _)
   | (with_reducible exact ih2 _ _ _ _ _)
   | (with_reducible exact age_Explicit.mono _ _ _)
   | (with_reducible exact age_Life.mono _ _ _ _ _)
   | (with_reducible exact date_Print.mono _ _)
   | (with_reducible exact sprlaw19_first.mono _)
   | (with_reducible exact LeO.refl _)
   | (with_reducible exact LeO.none _)
   | (with_reducible refine LeO.ite ?_ ?_)
   | (with_reducible refine LeO.bind ?_ (fun _ => ?_))
   | exact ih0 _ _ _ _
   | exact ih1 _ _ _ _ _ _
   | exact ih2 _ _ _ _ _
   | exact age_Explicit.mono _ _ _
   | exact age_Life.mono _ _ _ _ _
   | exact date_Print.mono _ _
   | exact sprlaw19_first.mono _
   | exact LeO.none _
   | refine LeO.ite ?_ ?_
   | refine LeO.bind ?_ (fun _ => ?_)
theorem sprlaw19_AgeHeuristic.mono : ∀ a0 a1 a2 k, LeO (sprlaw19_AgeHeuristic.f k a0 a1 a2) (sprlaw19_AgeHeuristic.f (k + 1) a0 a1 a2) := by
 intro a0 a1 a2 k;obtain ⟨ih0, ih1, ih2⟩ := sprlaw19_AgeHeuristic.mono_l k
 unfold sprlaw19_AgeHeuristic.f
 repeat' first
   | (with_reducible exact ih0 _ _ _ _)
   | (with_reducible exact ih1 _ _ _ _ _ _)
   | (with_reducible exact ih2 _ _ _ _ _)
   | (with_reducible exact age_Explicit.mono _ _ _)
   | (with_reducible exact age_Life.mono _ _ _ _ _)
   | (with_reducible exact date_Print.mono _ _)
   | (with_reducible exact sprlaw19_first.mono _)
   | (with_reducible exact LeO.refl _)
   | (with_reducible exact LeO.none _)
   | (with_reducible refine LeO.ite ?_ ?_)
   | (with_reducible refine LeO.bind ?_ (fun _ => ?_))
   | exact ih0 _ _ _ _
   | exact ih1 _ _ _ _ _ _
   | exact ih2 _ _ _ _ _
   | exact age_Explicit.mono _ _ _
   | exact age_Life.mono _ _ _ _ _
   | exact date_Print.mono _ _
   | exact sprlaw19_first.mono _
   | exact LeO.none _
   | refine LeO.ite ?_ ?_
   | refine LeO.bind ?_ (fun _ => ?_)
set_option maxHeartbeats 2000000 in
set_option maxRecDepth 100000 in
theorem sprlaw19_AgeHeuristic.calls (k : Nat) (a0 : Int) (a1 : Int) (a2 : Int) (r : Bool) (w : World) (h : sprlaw19_AgeHeuristic.f k a0 a1 a2 = some r) (hT : Aside0 (r = true)) (hT0 : Lib.TabIs Tryz.prog w "internal/strconv.uint64pow10" .u64 Lib.pow10Tab) :
  Calls Tryz.prog 5 #[.int .i64 a0, .int .i64 a1, .int .i64 a2] w fun e w' => e = .returned (.bool r) ∧ Below w.heap.size w w' := by
 have HT0 := Aside0.mk hT0;clear hT0;have hu35 := Tryz.underlying35;have HB := Aside0.mk (Below.refl w.heap.size w);have H : ((sprlaw19_first.f k).bind fun t433 => (if t433 = true then (if a0 < 0 then (sprlaw19_AgeHeuristic.j0 k a0 a1 a2 true) else (if a0 > 1073741824 then (sprlaw19_AgeHeuristic.j0 k a0 a1 a2 true) else (if a1 < 0 then (sprlaw19_AgeHeuristic.j0 k a0 a1 a2 true) else (sprlaw19_AgeHeuristic.j0 k a0 a1 a2 (decide (a1 > a0)))))) else (some false))) = some r := h;clear h;replace H := Option.bind_eq_some_iff.mp H;obtain ⟨t433, A40, H⟩ := H;replace H : (if t433 = true then (if a0 < 0 then (sprlaw19_AgeHeuristic.j0 k a0 a1 a2 true) else (if a0 > 1073741824 then (sprlaw19_AgeHeuristic.j0 k a0 a1 a2 true) else (if a1 < 0 then (sprlaw19_AgeHeuristic.j0 k a0 a1 a2 true) else (sprlaw19_AgeHeuristic.j0 k a0 a1 a2 (decide (a1 > a0)))))) else (some false)) = some r := H;have A4 := Aside0.mk A40;clear A40
 by_cases c5 : t433 = true
 ·subst c5
  (have H1 : (if a0 < 0 then (sprlaw19_AgeHeuristic.j0 k a0 a1 a2 true) else (if a0 > 1073741824 then (sprlaw19_AgeHeuristic.j0 k a0 a1 a2 true) else (if a1 < 0 then (sprlaw19_AgeHeuristic.j0 k a0 a1 a2 true) else (sprlaw19_AgeHeuristic.j0 k a0 a1 a2 (decide (a1 > a0)))))) = some r := by rw [if_pos rfl] at H; exact H);clear H;have H := H1;clear H1;have HC6 := Aside0.mk H;clear H;go_enter Tryz.func5, Tryz.ntmps5;go_upto_region 3 with (first | ((with_reducible refine gate_callee (f:=6) rfl ?_); refine goesL_ (some 14) rfl rfl Tryz.func6 (by kernel_rfl) rfl #[] rfl (by (try simp only [List.map_toArray, List.map_cons, List.map_nil]); first | done | rfl | (simp only [List.length_drop, List.length_take]; rfl)) ?_; (with_reducible refine (sprlaw19_first.calls k  true _ A4.out).mono ?_); rintro e w7 ⟨rfl, hb⟩; refine ⟨_, rfl, ?_⟩; have n0_ := Aside0.mk (below_step (by repeat (first | (with_reducible first | exact HB.out | apply below_alloc | apply pw_below_drewN | apply below_drew1) | exact HB.out)) hb); clear HB; have HB := n0_; clear n0_; (try clear hb); (try clear hb2); (try clear hk); (try clear hi)))
  (try simp only [Act.put, List.setIfInBounds_toArray, List.set_cons_zero, List.set_cons_succ])
  go_cut [30] (fun v30 wc => ∃ (kq : Nat) (x30_5 : Bool), v30 = .bool x30_5 ∧ Aside0 (sprlaw19_AgeHeuristic.j0 kq a0 a1 a2 x30_5 = some r) ∧ Aside0 (kq ≤ k) ∧ Aside0 (Below w.heap.size w wc))
  case first =>
   have H := HC6.out;clear HC6
   by_cases c8 : a0 < 0
   ·rw [if_pos c8] at H
    have c8b0 : decide (a0 < 0) = true := decide_eq_true c8;clear c8
    (first | rw [c8b0] | (simp only [i64_w, i32_w]; rw [c8b0]) | skip)
    have H' := Aside0.mk H;clear H;go_wp2;go_meet
    case rel => exact ⟨_, (true), (by first | rfl | (simp; done) | (simp [*]; done)), H', ⟨by first | omega | exact Nat.le_refl _⟩, ⟨by repeat (first | (with_reducible first | exact HB.out | apply below_alloc | apply pw_below_drewN | apply below_drew1) | exact HB.out)⟩⟩
   ·rw [if_neg c8] at H
    have c8b0 : decide (a0 < 0) = false := decide_eq_false c8;clear c8
    (first | rw [c8b0] | (simp only [i64_w, i32_w]; rw [c8b0]) | skip)
    by_cases c9 : a0 > 1073741824
    ·rw [if_pos c9] at H
     have c9b0 : decide (1073741824 < a0) = true := decide_eq_true c9;clear c9;have H' := Aside0.mk H;clear H;go_wp2;go_meet
     case rel => exact ⟨_, (true), (by first | rfl | (simp; done) | (simp [*]; done)), H', ⟨by first | omega | exact Nat.le_refl _⟩, ⟨by repeat (first | (with_reducible first | exact HB.out | apply below_alloc | apply pw_below_drewN | apply below_drew1) | exact HB.out)⟩⟩
    ·rw [if_neg c9] at H
     have c9b0 : decide (1073741824 < a0) = false := decide_eq_false c9;clear c9
     by_cases c10 : a1 < 0
     ·rw [if_pos c10] at H
      have c10b0 : decide (a1 < 0) = true := decide_eq_true c10;clear c10;have H' := Aside0.mk H;clear H;go_wp2;go_meet
      case rel => exact ⟨_, (true), (by first | rfl | (simp; done) | (simp [*]; done)), H', ⟨by first | omega | exact Nat.le_refl _⟩, ⟨by repeat (first | (with_reducible first | exact HB.out | apply below_alloc | apply pw_below_drewN | apply below_drew1) | exact HB.out)⟩⟩
     ·rw [if_neg c10] at H
      have c10b0 : decide (a1 < 0) = false := decide_eq_false c10;clear c10;have H' := Aside0.mk H;clear H;go_wp2;go_meet
      case rel => exact ⟨_, (decide (a1 > a0)), (by first | rfl | (simp; done) | (simp [*]; done)), H', ⟨by first | omega | exact Nat.le_refl _⟩, ⟨by repeat (first | (with_reducible first | exact HB.out | apply below_alloc | apply pw_below_drewN | apply below_drew1) | exact HB.out)⟩⟩
  case rest =>
   clear HC6;(try clear c1);(try clear p2);(try clear c5);(try clear c6);(try clear c8);(try clear c8b0);(try clear c9);(try clear c9b0);(try clear c10);(try clear c10b0);obtain ⟨kq, x30_5, rfl, HA, HJ5, HB⟩ := hcut
   cases kq with
   | zero => exact absurd HA.out (by simp [sprlaw19_AgeHeuristic.j0])
   | succ kj5 =>
    have H := HA.out;clear HA;simp only [sprlaw19_AgeHeuristic.j0] at H
    by_cases c11 : x30_5 = true
    ·subst c11;(have H1 : ((sprlaw19_first.f kj5).bind fun t434 => (some t434)) = some r := by rw [if_pos rfl] at H; exact H);clear H;have H := H1;clear H1;replace H := Option.bind_eq_some_iff.mp H;obtain ⟨t434, A120, H⟩ := H;replace H : (some t434) = some r := H;have A12 := Aside0.mk A120;clear A120;obtain rfl := Option.some.inj H;go_wp2_with (first | ((with_reducible refine gate_callee (f:=6) rfl ?_); refine goesL_ (some 31) rfl rfl Tryz.func6 (by kernel_rfl) rfl #[] rfl (by (try simp only [List.map_toArray, List.map_cons, List.map_nil]); first | done | rfl | (simp only [List.length_drop, List.length_take]; rfl)) ?_; (with_reducible refine (sprlaw19_first.calls kj5  t434 _ A12.out).mono ?_); rintro e w13 ⟨rfl, hb⟩; refine ⟨_, rfl, ?_⟩; have n0_ := Aside0.mk (below_step (by repeat (first | (with_reducible first | exact HB.out | apply below_alloc | apply pw_below_drewN | apply below_drew1) | exact HB.out)) hb); clear HB; have HB := n0_; clear n0_; (try clear hb); (try clear hb2); (try clear hk); (try clear hi)));go_ret;exact ⟨by first | rfl | (simp [errW_none, errW_some] <;> rfl) | (simp [*, errW_none, errW_some] <;> rfl), by repeat (first | (with_reducible first | exact HB.out | apply below_alloc | apply pw_below_drewN | apply below_drew1) | exact HB.out)⟩
    ·replace c11 := Bool.eq_false_iff.mpr c11
     subst c11;(have H1 : ((date_Print.f kj5 a0).bind fun bt435 => ((date_Print.f kj5 (wrap64 (a0 - a1))).bind fun bt437 => (if bt435.2 = 0 then (sprlaw19_AgeHeuristic.j1 kj5 a0 a1 a2 bt435.1 bt437.1 (bt437.2 != 0)) else (sprlaw19_AgeHeuristic.j1 kj5 a0 a1 a2 bt435.1 bt437.1 true)))) = some r := by rw [if_neg (show ¬ (false = true) by decide)] at H; exact H);clear H;have H := H1;clear H1;replace H := Option.bind_eq_some_iff.mp H;obtain ⟨⟨t435, t436⟩, A140, H⟩ := H;replace H : ((date_Print.f kj5 (wrap64 (a0 - a1))).bind fun bt437 => (if t436 = 0 then (sprlaw19_AgeHeuristic.j1 kj5 a0 a1 a2 t435 bt437.1 (bt437.2 != 0)) else (sprlaw19_AgeHeuristic.j1 kj5 a0 a1 a2 t435 bt437.1 true))) = some r := H;have A14 := Aside0.mk A140;clear A140;replace H := Option.bind_eq_some_iff.mp H;obtain ⟨⟨t437, t438⟩, A150, H⟩ := H;replace H : (if t436 = 0 then (sprlaw19_AgeHeuristic.j1 kj5 a0 a1 a2 t435 t437 (t438 != 0)) else (sprlaw19_AgeHeuristic.j1 kj5 a0 a1 a2 t435 t437 true)) = some r := H;have A15 := Aside0.mk A150;clear A150;have HC16 := Aside0.mk H;clear H;go_upto_region 7 with (first | ((with_reducible refine gate_callee (f:=18) rfl ?_); refine goesL_ (some 34) rfl rfl Tryz.func18 (by kernel_rfl) rfl #[.int .i64 a0] rfl (by (try simp only [List.map_toArray, List.map_cons, List.map_nil]); first | done | rfl | (simp only [List.length_drop, List.length_take]; rfl)) ?_; (with_reducible refine (date_Print.calls kj5 a0 t435 t436 _ A14.out (tab_below HT0.out (by repeat (first | (with_reducible first | exact HB.out | apply below_alloc | apply pw_below_drewN | apply below_drew1) | exact HB.out)))).mono ?_); rintro e w17 ⟨rfl, hb⟩; refine ⟨_, rfl, ?_⟩; have n0_ := Aside0.mk (below_step (by repeat (first | (with_reducible first | exact HB.out | apply below_alloc | apply pw_below_drewN | apply below_drew1) | exact HB.out)) hb); clear HB; have HB := n0_; clear n0_; (try clear hb); (try clear hb2); (try clear hk); (try clear hi)) | ((with_reducible refine gate_callee (f:=18) rfl ?_); refine goesL_ (some 41) rfl rfl Tryz.func18 (by kernel_rfl) rfl #[.int .i64 (wrap64 (a0 - a1))] rfl (by (try simp only [List.map_toArray, List.map_cons, List.map_nil]); first | done | rfl | (simp only [List.length_drop, List.length_take]; rfl)) ?_; (with_reducible refine (date_Print.calls kj5 (wrap64 (a0 - a1)) t437 t438 _ A15.out (tab_below HT0.out (by repeat (first | (with_reducible first | exact HB.out | apply below_alloc | apply pw_below_drewN | apply below_drew1) | exact HB.out)))).mono ?_); rintro e w18 ⟨rfl, hb⟩; refine ⟨_, rfl, ?_⟩; have n0_ := Aside0.mk (below_step (by repeat (first | (with_reducible first | exact HB.out | apply below_alloc | apply pw_below_drewN | apply below_drew1) | exact HB.out)) hb); clear HB; have HB := n0_; clear n0_; (try clear hb); (try clear hb2); (try clear hk); (try clear hi)))
     (try simp only [Act.put, List.setIfInBounds_toArray, List.set_cons_zero, List.set_cons_succ])
     go_cut [49] (fun v49 wc => ∃ (kq : Nat) (x49_15 : Bool), v49 = .bool x49_15 ∧ Aside0 (sprlaw19_AgeHeuristic.j1 kq a0 a1 a2 t435 t437 x49_15 = some r) ∧ Aside0 (kq ≤ kj5) ∧ Aside0 (Below w.heap.size w wc))
     case first =>
      have H := HC16.out;clear HC16
      by_cases c19 : t436 = 0
      ·rw [if_pos c19] at H
       have c19b0 : (t436 == 0) = true := beq_iff_eq.mpr c19;have c19b1 : (t436 != 0) = false := bne_eq_false_iff_eq.mpr c19;clear c19
       (first | rw [c19b0] | (simp only [i64_w, i32_w]; rw [c19b0]) | skip)
       have H' := Aside0.mk H;clear H;go_wp2;go_meet
       case rel => exact ⟨_, ((t438 != 0)), (by first | rfl | (simp; done) | (simp [*]; done)), H', ⟨by have := HJ5.out; first | omega | exact Nat.le_refl _⟩, ⟨by repeat (first | (with_reducible first | exact HB.out | apply below_alloc | apply pw_below_drewN | apply below_drew1) | exact HB.out)⟩⟩
      ·rw [if_neg c19] at H
       have c19b0 : (t436 == 0) = false := beq_eq_false_iff_ne.mpr c19;have c19b1 : (t436 != 0) = true := bne_iff_ne.mpr c19
       (first | rw [c19b0] | (simp only [i64_w, i32_w]; rw [c19b0]) | skip)
       exact absurd H (by cases kj5 with | zero => (simp [sprlaw19_AgeHeuristic.j1]) | succ kz => (intro hz; simp only [sprlaw19_AgeHeuristic.j1] at hz; exact absurd ((Option.some.inj hz).trans hT.out) (by decide)))
     case rest =>
      clear HC16;(try clear c1);(try clear p2);(try clear c5);(try clear c6);(try clear p6);(try clear c8);(try clear c8b0);(try clear c9);(try clear c9b0);(try clear c10);(try clear c10b0);(try clear c11);(try clear c18);(try clear c19);(try clear c19b0);(try clear c19b1);(try clear p2);obtain ⟨kq, x49_15, rfl, HA, HJ15, HB⟩ := hcut
      cases kq with
      | zero => exact absurd HA.out (by simp [sprlaw19_AgeHeuristic.j1])
      | succ kj15 =>
       have H := HA.out;clear HA;simp only [sprlaw19_AgeHeuristic.j1] at H
       by_cases c20 : x49_15 = true
       ·subst c20;(have H1 : (some false) = some r := by rw [if_pos rfl] at H; exact H);clear H;have H := H1;clear H1;exact absurd ((Option.some.inj H).trans hT.out) (by decide)
       ·replace c20 := Bool.eq_false_iff.mpr c20
        subst c20;(have H1 : ((some (([(⟨(⟨#[68, 97, 116, 101]⟩ : ByteArray), t435⟩ : S35), (⟨(⟨#[76, 97, 115, 116, 45, 77, 111, 100, 105, 102, 105, 101, 100]⟩ : ByteArray), t437⟩ : S35)] : List (S35)) : List (S35))).bind fun y439 => ((some (([] : List (S35)) : List (S35))).bind fun y442 => (if y442.length + y439.length < 4398046511104 then ((some (y442 ++ y439 : List (S35))).bind fun y445 => (if y445.length < 4398046511104 then ((some (y445 ++ [(⟨(⟨#[67, 97, 99, 104, 101, 45, 67, 111, 110, 116, 114, 111, 108]⟩ : ByteArray), (⟨#[109, 97, 120, 45, 97, 103, 101, 61, 48]⟩ : ByteArray)⟩ : S35)] : List (S35))).bind fun y448 => ((age_Usual.f a2).bind fun t451 => (if t451 = true then (sprlaw19_AgeHeuristic.j2 kj15 a0 a2 y439 y448 (mn (wrap64 (Int.tdiv a1 10)) 604800)) else (sprlaw19_AgeHeuristic.j2 kj15 a0 a2 y439 y448 0)))) else (none))) else (none)))) = some r := by rw [if_neg (show ¬ (false = true) by decide)] at H; exact H);clear H;have H := H1;clear H1;obtain ⟨y439, hy439⟩ : ∃ y_ : List (S35), y_ = (([(⟨(⟨#[68, 97, 116, 101]⟩ : ByteArray), t435⟩ : S35), (⟨(⟨#[76, 97, 115, 116, 45, 77, 111, 100, 105, 102, 105, 101, 100]⟩ : ByteArray), t437⟩ : S35)] : List (S35))) := ⟨_, rfl⟩;(replace H : ((some (([] : List (S35)) : List (S35))).bind fun y442 => (if y442.length + y439.length < 4398046511104 then ((some (y442 ++ y439 : List (S35))).bind fun y445 => (if y445.length < 4398046511104 then ((some (y445 ++ [(⟨(⟨#[67, 97, 99, 104, 101, 45, 67, 111, 110, 116, 114, 111, 108]⟩ : ByteArray), (⟨#[109, 97, 120, 45, 97, 103, 101, 61, 48]⟩ : ByteArray)⟩ : S35)] : List (S35))).bind fun y448 => ((age_Usual.f a2).bind fun t451 => (if t451 = true then (sprlaw19_AgeHeuristic.j2 kj15 a0 a2 y439 y448 (mn (wrap64 (Int.tdiv a1 10)) 604800)) else (sprlaw19_AgeHeuristic.j2 kj15 a0 a2 y439 y448 0)))) else (none))) else (none))) = some r := by first | (rw [hy439]; with_reducible exact H) | (have H2_ := (Option.bind_some _ _).symm.trans H; rw [hy439]; with_reducible exact H2_) | (have H2_ := (Option.bind_some _ _).symm.trans H; with_reducible exact H2_) | with_reducible exact H | (rw [hy439]; exact H) | exact H);have Ny439 := Aside0.mk hy439;clear hy439;obtain ⟨y442, hy442⟩ : ∃ y_ : List (S35), y_ = (([] : List (S35))) := ⟨_, rfl⟩;(replace H : (if y442.length + y439.length < 4398046511104 then ((some (y442 ++ y439 : List (S35))).bind fun y445 => (if y445.length < 4398046511104 then ((some (y445 ++ [(⟨(⟨#[67, 97, 99, 104, 101, 45, 67, 111, 110, 116, 114, 111, 108]⟩ : ByteArray), (⟨#[109, 97, 120, 45, 97, 103, 101, 61, 48]⟩ : ByteArray)⟩ : S35)] : List (S35))).bind fun y448 => ((age_Usual.f a2).bind fun t451 => (if t451 = true then (sprlaw19_AgeHeuristic.j2 kj15 a0 a2 y439 y448 (mn (wrap64 (Int.tdiv a1 10)) 604800)) else (sprlaw19_AgeHeuristic.j2 kj15 a0 a2 y439 y448 0)))) else (none))) else (none)) = some r := by first | (rw [hy442]; with_reducible exact H) | (have H2_ := (Option.bind_some _ _).symm.trans H; rw [hy442]; with_reducible exact H2_) | (have H2_ := (Option.bind_some _ _).symm.trans H; with_reducible exact H2_) | with_reducible exact H | (rw [hy442]; exact H) | exact H);have Ny442 := Aside0.mk hy442;clear hy442
        by_cases c21 : y442.length + y439.length < 4398046511104
        ·rw [if_pos c21] at H
         have LMc21 := Aside0.mk c21;clear c21;obtain ⟨y445, hy445⟩ : ∃ y_ : List (S35), y_ = (y442 ++ y439) := ⟨_, rfl⟩;(replace H : (if y445.length < 4398046511104 then ((some (y445 ++ [(⟨(⟨#[67, 97, 99, 104, 101, 45, 67, 111, 110, 116, 114, 111, 108]⟩ : ByteArray), (⟨#[109, 97, 120, 45, 97, 103, 101, 61, 48]⟩ : ByteArray)⟩ : S35)] : List (S35))).bind fun y448 => ((age_Usual.f a2).bind fun t451 => (if t451 = true then (sprlaw19_AgeHeuristic.j2 kj15 a0 a2 y439 y448 (mn (wrap64 (Int.tdiv a1 10)) 604800)) else (sprlaw19_AgeHeuristic.j2 kj15 a0 a2 y439 y448 0)))) else (none)) = some r := by first | (rw [hy445]; with_reducible exact H) | (have H2_ := (Option.bind_some _ _).symm.trans H; rw [hy445]; with_reducible exact H2_) | (have H2_ := (Option.bind_some _ _).symm.trans H; with_reducible exact H2_) | with_reducible exact H | (rw [hy445]; exact H) | exact H);have Ny445 := Aside0.mk hy445;clear hy445
         by_cases c22 : y445.length < 4398046511104
         ·rw [if_pos c22] at H
          have LMc22 := Aside0.mk c22;clear c22;obtain ⟨y448, hy448⟩ : ∃ y_ : List (S35), y_ = (y445 ++ [(⟨(⟨#[67, 97, 99, 104, 101, 45, 67, 111, 110, 116, 114, 111, 108]⟩ : ByteArray), (⟨#[109, 97, 120, 45, 97, 103, 101, 61, 48]⟩ : ByteArray)⟩ : S35)]) := ⟨_, rfl⟩;(replace H : ((age_Usual.f a2).bind fun t451 => (if t451 = true then (sprlaw19_AgeHeuristic.j2 kj15 a0 a2 y439 y448 (mn (wrap64 (Int.tdiv a1 10)) 604800)) else (sprlaw19_AgeHeuristic.j2 kj15 a0 a2 y439 y448 0))) = some r := by first | (rw [hy448]; with_reducible exact H) | (have H2_ := (Option.bind_some _ _).symm.trans H; rw [hy448]; with_reducible exact H2_) | (have H2_ := (Option.bind_some _ _).symm.trans H; with_reducible exact H2_) | with_reducible exact H | (rw [hy448]; exact H) | exact H);have Ny448 := Aside0.mk hy448;clear hy448;replace H := Option.bind_eq_some_iff.mp H;obtain ⟨t451, A230, H⟩ := H;replace H : (if t451 = true then (sprlaw19_AgeHeuristic.j2 kj15 a0 a2 y439 y448 (mn (wrap64 (Int.tdiv a1 10)) 604800)) else (sprlaw19_AgeHeuristic.j2 kj15 a0 a2 y439 y448 0)) = some r := H;have A23 := Aside0.mk A230;clear A230;have HC24 := Aside0.mk H;clear H;go_upto_if 62 with (first | ((with_reducible refine gate_dst (N:=54) rfl ?_); refine Kd.R_lit k35 _ 35 ?hg (N:=54) ?hd (xs := ([(⟨(⟨#[68, 97, 116, 101]⟩ : ByteArray), t435⟩ : S35), (⟨(⟨#[76, 97, 115, 116, 45, 77, 111, 100, 105, 102, 105, 101, 100]⟩ : ByteArray), t437⟩ : S35)] : List (S35))) (inner := [.string (⟨#[68, 97, 116, 101]⟩ : ByteArray), .string t435, .string (⟨#[76, 97, 115, 116, 45, 77, 111, 100, 105, 102, 105, 101, 100]⟩ : ByteArray), .string t437]) (ok := fun _ => True) (okp := fun _ => True) ?hr ?hp (fun _ hk => hk) trivial (Below.refl _ _) (Nat.le_refl _) (by simp) ?_; (case hd => rfl); (case hg => rfl); (case hr => first | (go_simp; done) | (go_simp; rfl)); (case hp => exact (Reps.c2 (show Kd.M k35 _ _ _ (⟨(⟨#[68, 97, 116, 101]⟩ : ByteArray), t435⟩ : S35) [.string (⟨#[68, 97, 116, 101]⟩ : ByteArray), .string t435] from (k35_mkM _ _ _ (⟨(⟨#[68, 97, 116, 101]⟩ : ByteArray), t435⟩ : S35) )) (Reps.c2 (show Kd.M k35 _ _ _ (⟨(⟨#[76, 97, 115, 116, 45, 77, 111, 100, 105, 102, 105, 101, 100]⟩ : ByteArray), t437⟩ : S35) [.string (⟨#[76, 97, 115, 116, 45, 77, 111, 100, 105, 102, 105, 101, 100]⟩ : ByteArray), .string t437] from (k35_mkM _ _ _ (⟨(⟨#[76, 97, 115, 116, 45, 77, 111, 100, 105, 102, 105, 101, 100]⟩ : ByteArray), t437⟩ : S35) )) (Reps.none _ _)))); intro v440 w25 ho26 hb hg_ hnew_; clear hg_ hnew_; (first | rw [← Ny439.out] at ho26 | (simp only [Int.reduceToNat] at ho26; rw [← Ny439.out] at ho26)); have n0_ := Aside0.mk (Kd.R_lower ho26 (below_size (by repeat (first | (with_reducible first | exact HB.out | apply below_alloc | apply pw_below_drewN | apply below_drew1) | exact HB.out)))); have n1_ := Aside0.mk (below_step (by repeat (first | (with_reducible first | exact HB.out | apply below_alloc | apply pw_below_drewN | apply below_drew1) | exact HB.out)) hb); clear HB; have HO441 := n0_; have HB := n1_; clear n0_ n1_; clear hb ho26) | ((with_reducible refine gate_dst (N:=55) rfl ?_); refine Kd.R_lit k35 _ 35 ?hg (N:=55) ?hd (xs := ([] : List (S35))) (inner := []) (ok := fun _ => True) (okp := fun _ => True) ?hr ?hp (fun _ hk => hk) trivial (Below.refl _ _) (Nat.le_refl _) (by simp) ?_; (case hd => rfl); (case hg => rfl); (case hr => first | (go_simp; done) | (go_simp; rfl)); (case hp => exact (Reps.none _ _)); intro v443 w27 ho28 hb hg_ hnew_; clear hg_ hnew_; (first | rw [← Ny442.out] at ho28 | (simp only [Int.reduceToNat] at ho28; rw [← Ny442.out] at ho28)); have n0_ := Aside0.mk (Kd.R_elder' (by (with_reducible repeat (first | apply Kd.R_alloc | apply Kd.R_drewN | apply Kd.R_drew)); exact HO441.out) (Kd.R_base ho28) hb); have n1_ := Aside0.mk (Kd.R_lower (Kd.R_new' ho28 (Kd.R_lt (by (with_reducible repeat (first | apply Kd.R_alloc | apply Kd.R_drewN | apply Kd.R_drew)); exact HO441.out))) (below_size (by repeat (first | (with_reducible first | exact HB.out | apply below_alloc | apply pw_below_drewN | apply below_drew1) | exact HB.out)))); have n2_ := Aside0.mk (below_step (by repeat (first | (with_reducible first | exact HB.out | apply below_alloc | apply pw_below_drewN | apply below_drew1) | exact HB.out)) hb); clear HO441; clear HB; have HO441 := n0_; have HO444 := n1_; have HB := n2_; clear n0_ n1_ n2_; clear hb ho28; obtain ⟨Ao30, co30, eo30⟩ := Kd.R_slice HO441.out; subst eo30) | ((with_reducible refine gate_builtin (b:=.append) (xs := #[.tmp 55, .tmp 56]) rfl ?_); at_builtin; refine Kd.R_append_rows k35 (w0 := w) w.heap.size rfl (.tmp 55) (.tmp 56) 22 35 (.agg #[(.string ⟨#[]⟩), (.string ⟨#[]⟩)]) 32 rfl Tryz.underlying22 info35 rfl (by decide) (by omega) v443 y442 y439 _ _ _ (fun k_ => some k_ ≠ (.slice Ao30 y439.length co30 : Value).ownBlock) (fun _ => False) rfl rfl ?aO ?aR (fun _ _ h => h) (fun _ h => h.elim) ?aF ?aB ?aS ?aL ?_; (case aR => repeat (first | exact (Kd.R_reads' HO441.out).2.2 | (with_reducible refine Kd.C_alloc ?_ _) | (with_reducible refine Kd.C_drewN ?_ _) | (with_reducible refine Kd.C_drew ?_))); (case aB => exact (by repeat (first | (with_reducible first | exact HB.out | apply below_alloc | apply pw_below_drewN | apply below_drew1) | exact HB.out))); (case aF => exact (fun k_ hk => Kd.fresh' (Kd.R_lt (by (with_reducible repeat (first | apply Kd.R_alloc | apply Kd.R_drewN | apply Kd.R_drew)); exact HO441.out)) k_ hk)); (case aO => exact (by (with_reducible repeat (first | apply Kd.R_alloc | apply Kd.R_drewN | apply Kd.R_drew)); exact Kd.R_mono HO444.out (fun _ hk => hk.2))); (case aS => exact (below_size (by repeat (first | (with_reducible first | exact HB.out | apply below_alloc | apply pw_below_drewN | apply below_drew1) | exact HB.out)))); (case aL => have := LMc21.out; omega); intro v446 w29 ho hb hg hat; rw [← Ny445.out] at ho; have n0_ := Aside0.mk (Kd.R_after (ok := (fun _ => True)) (by (with_reducible repeat (first | apply Kd.R_alloc | apply Kd.R_drewN | apply Kd.R_drew)); exact HO441.out) hg hat); have n1_ := Aside0.mk (hb); have n2_ := Aside0.mk (ho); clear HO441; clear HB; clear HO444; have HO441 := n0_; have HB := n1_; have HO447 := n2_; clear n0_ n1_ n2_; clear ho hb hg hat) | ((with_reducible refine gate_builtin (b:=.append) (xs := #[.tmp 57, .tmp 59]) rfl ?_); at_builtin; refine Kd.R_append k35 (w0 := w) w.heap.size rfl (.tmp 57) (.tmp 59) 22 35 (.agg #[(.string ⟨#[]⟩), (.string ⟨#[]⟩)]) 32 rfl Tryz.underlying22 info35 rfl (by decide) (by omega) v446 y445 (⟨(⟨#[67, 97, 99, 104, 101, 45, 67, 111, 110, 116, 114, 111, 108]⟩ : ByteArray), (⟨#[109, 97, 120, 45, 97, 103, 101, 61, 48]⟩ : ByteArray)⟩ : S35) [.string (⟨#[67, 97, 99, 104, 101, 45, 67, 111, 110, 116, 114, 111, 108]⟩ : ByteArray), .string (⟨#[109, 97, 120, 45, 97, 103, 101, 61, 48]⟩ : ByteArray)] (fun k_ => some k_ ≠ (.slice Ao30 y439.length co30 : Value).ownBlock) (fun _ => False) rfl rfl ?aP (fun _ hk => hk.elim) ?aF ?aO ?aB ?aS ?aL ?_; (case aP => exact k35_mkM _ _ _ (⟨(⟨#[67, 97, 99, 104, 101, 45, 67, 111, 110, 116, 114, 111, 108]⟩ : ByteArray), (⟨#[109, 97, 120, 45, 97, 103, 101, 61, 48]⟩ : ByteArray)⟩ : S35)); (case aB => exact (by repeat (first | (with_reducible first | exact HB.out | apply below_alloc | apply pw_below_drewN | apply below_drew1) | exact HB.out))); (case aF => exact (fun k_ hk => Kd.fresh' (Kd.R_lt (by (with_reducible repeat (first | apply Kd.R_alloc | apply Kd.R_drewN | apply Kd.R_drew)); exact HO441.out)) k_ hk)); (case aO => exact (by (with_reducible repeat (first | apply Kd.R_alloc | apply Kd.R_drewN | apply Kd.R_drew)); exact HO447.out)); (case aS => exact (below_size (by repeat (first | (with_reducible first | exact HB.out | apply below_alloc | apply pw_below_drewN | apply below_drew1) | exact HB.out)))); (case aL => have := LMc22.out; omega); intro v449 w31 ho hb hg hat; rw [← Ny448.out] at ho; have n0_ := Aside0.mk (Kd.R_after (ok := (fun _ => True)) (by (with_reducible repeat (first | apply Kd.R_alloc | apply Kd.R_drewN | apply Kd.R_drew)); exact HO441.out) hg hat); have n1_ := Aside0.mk (hb); have n2_ := Aside0.mk (ho); clear HO441; clear HB; clear HO447; have HO441 := n0_; have HB := n1_; have HO450 := n2_; clear n0_ n1_ n2_; clear ho hb hg hat) | ((with_reducible refine gate_callee (f:=16) rfl ?_); refine goesL_ (some 62) rfl rfl Tryz.func16 (by kernel_rfl) rfl #[.int .i64 a2] rfl (by (try simp only [List.map_toArray, List.map_cons, List.map_nil]); first | done | rfl | (simp only [List.length_drop, List.length_take]; rfl)) ?_; (with_reducible refine (age_Usual.calls a2 t451 _ A23.out).mono ?_); rintro e w' ⟨rfl, ⟨nd, rfl⟩⟩; refine ⟨_, rfl, ?_⟩))
          (try simp only [Act.put, List.setIfInBounds_toArray, List.set_cons_zero, List.set_cons_succ])
          go_cut [13] (fun v13 wc => ∃ (kq : Nat) (x13_23 : Int), v13 = .int .i64 x13_23 ∧ Aside0 (sprlaw19_AgeHeuristic.j2 kq a0 a2 y439 y448 x13_23 = some r) ∧ Aside0 (kq ≤ kj15) ∧ Aside0 (Kd.R k35 35 wc w.heap.size (fun k_ => some k_ ≠ (v449 : Value).ownBlock) (.slice Ao30 y439.length co30) y439) ∧ Aside0 (Kd.R k35 35 wc w.heap.size (fun k_ => some k_ ≠ ((.slice Ao30 y439.length co30) : Value).ownBlock) v449 y448) ∧ Aside0 (Below w.heap.size w wc))
          case first =>
           have H := HC24.out;clear HC24
           by_cases c32 : t451 = true
           ·subst c32
            (have H1 : (sprlaw19_AgeHeuristic.j2 kj15 a0 a2 y439 y448 (mn (wrap64 (Int.tdiv a1 10)) 604800)) = some r := by rw [if_pos rfl] at H; exact H);clear H;have H := H1;clear H1;obtain ⟨ji33, hji33⟩ : ∃ j_ : Int, (mn (wrap64 (Int.tdiv a1 10)) 604800) = j_ := ⟨_, rfl⟩;(replace H : (sprlaw19_AgeHeuristic.j2 kj15 a0 a2 y439 y448 ji33) = some r := by first | (rw [hji33] at H; exact H) | (simp only [hji33] at H ⊢; exact H));have hji33_ : (if 604800 < (wrap64 (Int.tdiv a1 10)) then 604800 else (wrap64 (Int.tdiv a1 10))) = ji33 := hji33;have H' := Aside0.mk H;clear H;go_wp2;go_meet
            case rel => exact ⟨_, (ji33), (by first | rfl | (simp; done) | (simp only [← hji33] <;> (first | rfl | simp)) | (simp [*]; done)), H', ⟨by have := HJ5.out; have := HJ15.out; first | omega | exact Nat.le_refl _⟩, ⟨by (with_reducible repeat (first | apply Kd.R_alloc | apply Kd.R_drewN | apply Kd.R_drew)); exact Kd.R_mono HO441.out (fun _ hk => hk.2)⟩, ⟨by (with_reducible repeat (first | apply Kd.R_alloc | apply Kd.R_drewN | apply Kd.R_drew)); exact HO450.out⟩, ⟨by repeat (first | (with_reducible first | exact HB.out | apply below_alloc | apply pw_below_drewN | apply below_drew1) | exact HB.out)⟩⟩
           ·replace c32 := Bool.eq_false_iff.mpr c32
            subst c32;(have H1 : (sprlaw19_AgeHeuristic.j2 kj15 a0 a2 y439 y448 0) = some r := by rw [if_neg (show ¬ (false = true) by decide)] at H; exact H);clear H;have H := H1;clear H1;have H' := Aside0.mk H;clear H;go_wp2;go_meet
            case rel => exact ⟨_, (0), (by first | rfl | (simp; done) | (simp [*]; done)), H', ⟨by have := HJ5.out; have := HJ15.out; first | omega | exact Nat.le_refl _⟩, ⟨by (with_reducible repeat (first | apply Kd.R_alloc | apply Kd.R_drewN | apply Kd.R_drew)); exact Kd.R_mono HO441.out (fun _ hk => hk.2)⟩, ⟨by (with_reducible repeat (first | apply Kd.R_alloc | apply Kd.R_drewN | apply Kd.R_drew)); exact HO450.out⟩, ⟨by repeat (first | (with_reducible first | exact HB.out | apply below_alloc | apply pw_below_drewN | apply below_drew1) | exact HB.out)⟩⟩
          case rest =>
           clear HC24;(try clear c1);(try clear c2);(try clear p2);(try clear c3);(try clear c5);(try clear c6);(try clear p6);(try clear c8);(try clear c8b0);(try clear c9);(try clear c9b0);(try clear c10);(try clear c10b0);(try clear c11);(try clear c16);(try clear c18);(try clear c19);(try clear c19b0);(try clear c19b1);(try clear c20);(try clear c21);(try clear c22);(try clear c32);(try clear p2);(try clear p6);obtain ⟨kq, x13_23, rfl, HA, HJ23, HO_11, HO_12, HB⟩ := hcut
           cases kq with
           | zero => exact absurd HA.out (by simp [sprlaw19_AgeHeuristic.j2])
           | succ kj23 =>
            have H := HA.out;clear HA;simp only [sprlaw19_AgeHeuristic.j2] at H;replace H := Option.bind_eq_some_iff.mp H;obtain ⟨t452, A340, H⟩ := H;replace H : (if t452 = true then ((age_Life.f kj23 false a2 y439 a0).bind fun t453 => (if t453 = x13_23 then ((age_Life.f kj23 false a2 y448 a0).bind fun t454 => (if t454 = 0 then ((age_Explicit.f kj23 true y439).bind fun t455 => (some (!t455))) else (some false))) else (some false))) else (some false)) = some r := H;have A34 := Aside0.mk A340;clear A340
            by_cases c35 : t452 = true
            ·subst c35
             (have H1 : ((age_Life.f kj23 false a2 y439 a0).bind fun t453 => (if t453 = x13_23 then ((age_Life.f kj23 false a2 y448 a0).bind fun t454 => (if t454 = 0 then ((age_Explicit.f kj23 true y439).bind fun t455 => (some (!t455))) else (some false))) else (some false))) = some r := by rw [if_pos rfl] at H; exact H);clear H;have H := H1;clear H1;replace H := Option.bind_eq_some_iff.mp H;obtain ⟨t453, A360, H⟩ := H;replace H : (if t453 = x13_23 then ((age_Life.f kj23 false a2 y448 a0).bind fun t454 => (if t454 = 0 then ((age_Explicit.f kj23 true y439).bind fun t455 => (some (!t455))) else (some false))) else (some false)) = some r := H;have A36 := Aside0.mk A360;clear A360
             by_cases c37 : t453 = x13_23
             ·rw [if_pos c37] at H
              have c37b0 : (t453 == x13_23) = true := beq_iff_eq.mpr c37;have c37b1 : (t453 != x13_23) = false := bne_eq_false_iff_eq.mpr c37;clear c37;replace H := Option.bind_eq_some_iff.mp H;obtain ⟨t454, A380, H⟩ := H;replace H : (if t454 = 0 then ((age_Explicit.f kj23 true y439).bind fun t455 => (some (!t455))) else (some false)) = some r := H;have A38 := Aside0.mk A380;clear A380
              by_cases c39 : t454 = 0
              ·rw [if_pos c39] at H;have c39b0 : (t454 == 0) = true := beq_iff_eq.mpr c39;have c39b1 : (t454 != 0) = false := bne_eq_false_iff_eq.mpr c39;clear c39;replace H := Option.bind_eq_some_iff.mp H;obtain ⟨t455, A400, H⟩ := H;replace H : (some (!t455)) = some r := H;have A40 := Aside0.mk A400;clear A400;obtain rfl := Option.some.inj H;go_wp2_with (first | ((with_reducible refine gate_callee (f:=6) rfl ?_); refine goesL_ (some 66) rfl rfl Tryz.func6 (by kernel_rfl) rfl #[] rfl (by (try simp only [List.map_toArray, List.map_cons, List.map_nil]); first | done | rfl | (simp only [List.length_drop, List.length_take]; rfl)) ?_; (with_reducible refine (sprlaw19_first.calls kj23  true _ A34.out).mono ?_); rintro e w41 ⟨rfl, hb⟩; refine ⟨_, rfl, ?_⟩; have n0_ := Aside0.mk (Kd.R_below (by (with_reducible repeat (first | apply Kd.R_alloc | apply Kd.R_drewN | apply Kd.R_drew)); exact HO_11.out) hb); have n1_ := Aside0.mk (Kd.R_below (by (with_reducible repeat (first | apply Kd.R_alloc | apply Kd.R_drewN | apply Kd.R_drew)); exact HO_12.out) hb); have n2_ := Aside0.mk (below_step (by repeat (first | (with_reducible first | exact HB.out | apply below_alloc | apply pw_below_drewN | apply below_drew1) | exact HB.out)) hb); clear HO_11; clear HO_12; clear HB; have HO_11 := n0_; have HO_12 := n1_; have HB := n2_; clear n0_ n1_ n2_; (try clear hb); (try clear hb2); (try clear hk); (try clear hi)) | (go_at_call 12; (with_reducible refine (age_Life.calls kj23 false a2 _ _ y439 a0 t453 _ ?side1 ?side2 A36.out).mono ?_); (case side1 => repeat (first | exact (Kd.R_reads' HO_11.out).2.2 | (with_reducible refine Kd.C_alloc ?_ _) | (with_reducible refine Kd.C_drewN ?_ _) | (with_reducible refine Kd.C_drew ?_))); (case side2 => exact (Kd.R_reads' HO_11.out).2.1); rintro e w42 ⟨rfl, hb⟩; have n0_ := Aside0.mk (Kd.R_below (by (with_reducible repeat (first | apply Kd.R_alloc | apply Kd.R_drewN | apply Kd.R_drew)); exact HO_11.out) hb); have n1_ := Aside0.mk (Kd.R_below (by (with_reducible repeat (first | apply Kd.R_alloc | apply Kd.R_drewN | apply Kd.R_drew)); exact HO_12.out) hb); have n2_ := Aside0.mk (below_step (by repeat (first | (with_reducible first | exact HB.out | apply below_alloc | apply pw_below_drewN | apply below_drew1) | exact HB.out)) hb); clear HO_11; clear HO_12; clear HB; have HO_11 := n0_; have HO_12 := n1_; have HB := n2_; clear n0_ n1_ n2_; (try clear hb); (try clear hb2); (try clear hk); (try clear hi); obtain ⟨Ao43, co43, eo43⟩ := Kd.R_slice HO_12.out; subst eo43) | (go_at_call 12; (with_reducible refine (age_Life.calls kj23 false a2 _ _ y448 a0 t454 _ ?side1 ?side2 A38.out).mono ?_); (case side1 => repeat (first | exact (Kd.R_reads' HO_12.out).2.2 | (with_reducible refine Kd.C_alloc ?_ _) | (with_reducible refine Kd.C_drewN ?_ _) | (with_reducible refine Kd.C_drew ?_))); (case side2 => exact (Kd.R_reads' HO_12.out).2.1); rintro e w44 ⟨rfl, hb⟩; have n0_ := Aside0.mk (Kd.R_below (by (with_reducible repeat (first | apply Kd.R_alloc | apply Kd.R_drewN | apply Kd.R_drew)); exact HO_11.out) hb); have n1_ := Aside0.mk (Kd.R_below (by (with_reducible repeat (first | apply Kd.R_alloc | apply Kd.R_drewN | apply Kd.R_drew)); exact HO_12.out) hb); have n2_ := Aside0.mk (below_step (by repeat (first | (with_reducible first | exact HB.out | apply below_alloc | apply pw_below_drewN | apply below_drew1) | exact HB.out)) hb); clear HO_11; clear HO_12; clear HB; have HO_11 := n0_; have HO_12 := n1_; have HB := n2_; clear n0_ n1_ n2_; (try clear hb); (try clear hb2); (try clear hk); (try clear hi)) | (go_at_call 14; (with_reducible refine (age_Explicit.calls kj23 true _ _ y439 t455 _ ?side1 ?side2 A40.out).mono ?_); (case side1 => repeat (first | exact (Kd.R_reads' HO_11.out).2.2 | (with_reducible refine Kd.C_alloc ?_ _) | (with_reducible refine Kd.C_drewN ?_ _) | (with_reducible refine Kd.C_drew ?_))); (case side2 => exact (Kd.R_reads' HO_11.out).2.1); rintro e w45 ⟨rfl, hb⟩; have n0_ := Aside0.mk (Kd.R_below (by (with_reducible repeat (first | apply Kd.R_alloc | apply Kd.R_drewN | apply Kd.R_drew)); exact HO_11.out) hb); have n1_ := Aside0.mk (Kd.R_below (by (with_reducible repeat (first | apply Kd.R_alloc | apply Kd.R_drewN | apply Kd.R_drew)); exact HO_12.out) hb); have n2_ := Aside0.mk (below_step (by repeat (first | (with_reducible first | exact HB.out | apply below_alloc | apply pw_below_drewN | apply below_drew1) | exact HB.out)) hb); clear HO_11; clear HO_12; clear HB; have HO_11 := n0_; have HO_12 := n1_; have HB := n2_; clear n0_ n1_ n2_; (try clear hb); (try clear hb2); (try clear hk); (try clear hi)));go_ret;exact ⟨by first | rfl | (simp [errW_none, errW_some] <;> rfl) | (simp [*, errW_none, errW_some] <;> rfl), by repeat (first | (with_reducible first | exact HB.out | apply below_alloc | apply pw_below_drewN | apply below_drew1) | exact HB.out)⟩
              ·rw [if_neg c39] at H;have c39b0 : (t454 == 0) = false := beq_eq_false_iff_ne.mpr c39;have c39b1 : (t454 != 0) = true := bne_iff_ne.mpr c39;exact absurd ((Option.some.inj H).trans hT.out) (by decide)
             ·rw [if_neg c37] at H;have c37b0 : (t453 == x13_23) = false := beq_eq_false_iff_ne.mpr c37;have c37b1 : (t453 != x13_23) = true := bne_iff_ne.mpr c37;exact absurd ((Option.some.inj H).trans hT.out) (by decide)
            ·replace c35 := Bool.eq_false_iff.mpr c35;subst c35;(have H1 : (some false) = some r := by rw [if_neg (show ¬ (false = true) by decide)] at H; exact H);clear H;have H := H1;clear H1;exact absurd ((Option.some.inj H).trans hT.out) (by decide)
         ·rw [if_neg c22] at H;exact absurd H (by simp)
        ·rw [if_neg c21] at H;exact absurd H (by simp)
 ·replace c5 := Bool.eq_false_iff.mpr c5;subst c5;(have H1 : (some false) = some r := by rw [if_neg (show ¬ (false = true) by decide)] at H; exact H);clear H;have H := H1;clear H1;exact absurd ((Option.some.inj H).trans hT.out) (by decide)
/-- THE ONE PURE STATEMENT of sprlaw19_AgeHeuristic: yours. -/
def sprlaw19_AgeHeuristic.Pure : Prop := ∀ (a0 : Int) (a1 : Int) (a2 : Int), (Lit.int .i64 a0).wf = true → (Lit.int .i64 a1).wf = true → (Lit.int .i64 a2).wf = true → ∃ k, sprlaw19_AgeHeuristic.f k a0 a1 a2 = some true
theorem sprlaw19_AgeHeuristic.walk (P : sprlaw19_AgeHeuristic.Pure) (a0 : Int) (a1 : Int) (a2 : Int) (w : World) (hT0 : Lib.TabIs Tryz.prog w "internal/strconv.uint64pow10" .u64 Lib.pow10Tab) (w0 : (Lit.int .i64 a0).wf = true) (w1 : (Lit.int .i64 a1).wf = true) (w2 : (Lit.int .i64 a2).wf = true) :
  Calls Tryz.prog 5 #[.int .i64 a0, .int .i64 a1, .int .i64 a2] w fun e w' => e = .returned (.bool true) ∧ Below w.heap.size w w' := by
 obtain ⟨k, h⟩ := P a0 a1 a2 w0 w1 w2;refine (sprlaw19_AgeHeuristic.calls k a0 a1 a2 true w h (Aside0.mk rfl) hT0).mono ?_;rintro e w' ⟨rfl, hd⟩;exact ⟨rfl, hd⟩
end Go.Proofs.YtdikhinmlpihdaaGreatDoor.A
