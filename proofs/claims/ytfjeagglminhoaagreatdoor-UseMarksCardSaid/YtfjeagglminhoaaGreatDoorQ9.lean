-- Written by a program of this session's (wip/xprint.py), out of the seat's translation.
import Derived.Test.YtfjeagglminhoaaGreatDoorQ0
import Derived.Test.YtfjeagglminhoaaGreatDoorQ7
import Derived.Test.YtfjeagglminhoaaGreatDoorQ8
import Derived.Test.YtfjeagglminhoaaGreatDoorSh
namespace Go.Proofs.YtfjeagglminhoaaGreatDoor.Q
open Go.RowKit Go.Proofs.YtfjeagglminhoaaGreatDoorW.PrintWords Go.Proofs.YtfjeagglminhoaaGreatDoorW.PrintLast Go.Proofs.YtfjeagglminhoaaGreatDoorW.PrintMore
open Go.Proofs.YtfjeagglminhoaaGreatDoor.Own (Y Z sA sB sC)
open Go.Proofs.YtfjeagglminhoaaGreatDoor.Sh
attribute [local go_sem] max2_int min2_int max_two min_two max_three min_three max_four min_four   -- for this text's walks alone
set_option linter.unusedVariables false
set_option linter.unusedSimpArgs false
/-! ### date_length: function 55 -/
def date_length.j0 : Nat → Int → Bool → Option (Int)
 | 0, _, _ => none
 | k + 1, x1, x5 => if x5 = true then (some 29) else (if x1 = 2 then (some 28) else (if x1 = 4 then (some 30) else (if x1 = 6 then (some 30) else (if x1 = 9 then (some 30) else (if x1 = 11 then (some 30) else (some 31))))))
def date_length.f (k : Nat) (a0 : Int) (a1 : Int) : Option (Int) := if a1 = 2 then ((date_leap.f a0).bind fun t245 => (date_length.j0 k a1 t245)) else (date_length.j0 k a1 false)
theorem date_length.mono_l : ∀ k, (∀ y0 y1, LeO (date_length.j0 k y0 y1) (date_length.j0 (k + 1) y0 y1))
 | 0 => fun _ _ r h => by simp [date_length.j0] at h
 | k + 1 => by
  have ih0 := date_length.mono_l k
  ·intro y0 y1
   unfold date_length.j0
   repeat' first
   | (with_reducible exact ih0 _ _)
   | (with_reducible exact LeO.refl _)
   | (with_reducible exact LeO.none _)
   | (with_reducible refine LeO.ite ?_ ?_)
   | (with_reducible refine LeO.bind ?_ (fun _ => ?_))
   | exact ih0 _ _
   | exact LeO.none _
   | refine LeO.ite ?_ ?_
   | refine LeO.bind ?_ (fun _ => ?_)
theorem date_length.mono : ∀ a0 a1 k, LeO (date_length.f k a0 a1) (date_length.f (k + 1) a0 a1) := by
 intro a0 a1 k;have ih0 := date_length.mono_l k
 unfold date_length.f
 repeat' first
   | (with_reducible exact ih0 _ _)
   | (with_reducible exact LeO.refl _)
   | (with_reducible exact LeO.none _)
   | (with_reducible refine LeO.ite ?_ ?_)
   | (with_reducible refine LeO.bind ?_ (fun _ => ?_))
   | exact ih0 _ _
   | exact LeO.none _
   | refine LeO.ite ?_ ?_
   | refine LeO.bind ?_ (fun _ => ?_)
set_option maxHeartbeats 2000000 in
set_option maxRecDepth 100000 in
theorem date_length.calls (k : Nat) (a0 : Int) (a1 : Int) (r : Int) (w : World) (h : date_length.f k a0 a1 = some r) :
  Calls Tryz.prog 55 #[.int .i64 a0, .int .i64 a1] w fun e w' => e = .returned (.int .i64 r) ∧ Drawn0 w w' := by
 have H : (if a1 = 2 then ((date_leap.f a0).bind fun t245 => (date_length.j0 k a1 t245)) else (date_length.j0 k a1 false)) = some r := h;clear h;have HC3 := Aside0.mk H;clear H;go_enter Tryz.func55, Tryz.ntmps55;go_upto_region 1 with (fail);go_cut [5] (fun v5 wc => ∃ (kq : Nat) (x5_2 : Bool), v5 = .bool x5_2 ∧ Aside0 (date_length.j0 kq a1 x5_2 = some r) ∧ Aside0 (kq ≤ k) ∧ Drawn0 w wc)
 case first =>
  have H := HC3.out;clear HC3
  by_cases c4 : a1 = 2
  ·rw [if_pos c4] at H
   have c4b0 : (a1 == 2) = true := beq_iff_eq.mpr c4;have c4b1 : (a1 != 2) = false := bne_eq_false_iff_eq.mpr c4;clear c4
   (first | rw [c4b0] | (simp only [i64_w, i32_w]; rw [c4b0]) | skip)
   replace H := Option.bind_eq_some_iff.mp H;obtain ⟨t245, A50, H⟩ := H;replace H : (date_length.j0 k a1 t245) = some r := H;have A5 := Aside0.mk A50;clear A50;have H' := Aside0.mk H;clear H;go_wp2_with (first | (go_at_call 76; (with_reducible refine (date_leap.calls a0 t245 _ A5.out).mono ?_); rintro e w' ⟨rfl, ⟨nd, rfl⟩⟩));go_meet
   case rel => exact ⟨_, (t245), (by first | rfl | (simp; done) | (simp [*]; done)), H', ⟨by first | omega | exact Nat.le_refl _⟩, by repeat (first | exact Drawn0.refl _ | apply Drawn0.step)⟩
  ·rw [if_neg c4] at H
   have c4b0 : (a1 == 2) = false := beq_eq_false_iff_ne.mpr c4;have c4b1 : (a1 != 2) = true := bne_iff_ne.mpr c4
   (first | rw [c4b0] | (simp only [i64_w, i32_w]; rw [c4b0]) | skip)
   have H' := Aside0.mk H;clear H;go_wp2;go_meet
   case rel => exact ⟨_, (false), (by first | rfl | (simp; done) | (simp [*]; done)), H', ⟨by first | omega | exact Nat.le_refl _⟩, by repeat (first | exact Drawn0.refl _ | apply Drawn0.step)⟩
 case rest =>
  clear HC3;(try clear p2);(try clear c4);(try clear c4b0);(try clear c4b1);(try clear c5);obtain ⟨kq, x5_2, rfl, HA, HJ2, ⟨mc2, rfl⟩⟩ := hcut
  cases kq with
  | zero => exact absurd HA.out (by simp [date_length.j0])
  | succ kj2 =>
   have H := HA.out;clear HA;simp only [date_length.j0] at H
   by_cases c6 : x5_2 = true
   ·subst c6;(have H1 : (some 29) = some r := by rw [if_pos rfl] at H; exact H);clear H;have H := H1;clear H1;obtain rfl := Option.some.inj H;go_wp2;go_ret;exact ⟨by first | rfl | (simp; done) | (simp [*]; done), by repeat (first | exact Drawn0.refl _ | apply Drawn0.step)⟩
   ·replace c6 := Bool.eq_false_iff.mpr c6
    subst c6;(have H1 : (if a1 = 2 then (some 28) else (if a1 = 4 then (some 30) else (if a1 = 6 then (some 30) else (if a1 = 9 then (some 30) else (if a1 = 11 then (some 30) else (some 31)))))) = some r := by rw [if_neg (show ¬ (false = true) by decide)] at H; exact H);clear H;have H := H1;clear H1
    by_cases c7 : a1 = 2
    ·rw [if_pos c7] at H;have c7b0 : (a1 == 2) = true := beq_iff_eq.mpr c7;have c7b1 : (a1 != 2) = false := bne_eq_false_iff_eq.mpr c7;clear c7;obtain rfl := Option.some.inj H;go_wp2;go_ret;exact ⟨by first | rfl | (simp; done) | (simp [*]; done), by repeat (first | exact Drawn0.refl _ | apply Drawn0.step)⟩
    ·rw [if_neg c7] at H
     have c7b0 : (a1 == 2) = false := beq_eq_false_iff_ne.mpr c7;have c7b1 : (a1 != 2) = true := bne_iff_ne.mpr c7
     by_cases c8 : a1 = 4
     ·rw [if_pos c8] at H;have c8b0 : (a1 == 4) = true := beq_iff_eq.mpr c8;have c8b1 : (a1 != 4) = false := bne_eq_false_iff_eq.mpr c8;clear c8;obtain rfl := Option.some.inj H;go_wp2;go_ret;exact ⟨by first | rfl | (simp; done) | (simp [*]; done), by repeat (first | exact Drawn0.refl _ | apply Drawn0.step)⟩
     ·rw [if_neg c8] at H
      have c8b0 : (a1 == 4) = false := beq_eq_false_iff_ne.mpr c8;have c8b1 : (a1 != 4) = true := bne_iff_ne.mpr c8
      by_cases c9 : a1 = 6
      ·rw [if_pos c9] at H;have c9b0 : (a1 == 6) = true := beq_iff_eq.mpr c9;have c9b1 : (a1 != 6) = false := bne_eq_false_iff_eq.mpr c9;clear c9;obtain rfl := Option.some.inj H;go_wp2;go_ret;exact ⟨by first | rfl | (simp; done) | (simp [*]; done), by repeat (first | exact Drawn0.refl _ | apply Drawn0.step)⟩
      ·rw [if_neg c9] at H
       have c9b0 : (a1 == 6) = false := beq_eq_false_iff_ne.mpr c9;have c9b1 : (a1 != 6) = true := bne_iff_ne.mpr c9
       by_cases c10 : a1 = 9
       ·rw [if_pos c10] at H;have c10b0 : (a1 == 9) = true := beq_iff_eq.mpr c10;have c10b1 : (a1 != 9) = false := bne_eq_false_iff_eq.mpr c10;clear c10;obtain rfl := Option.some.inj H;go_wp2;go_ret;exact ⟨by first | rfl | (simp; done) | (simp [*]; done), by repeat (first | exact Drawn0.refl _ | apply Drawn0.step)⟩
       ·rw [if_neg c10] at H
        have c10b0 : (a1 == 9) = false := beq_eq_false_iff_ne.mpr c10;have c10b1 : (a1 != 9) = true := bne_iff_ne.mpr c10
        by_cases c11 : a1 = 11
        ·rw [if_pos c11] at H;have c11b0 : (a1 == 11) = true := beq_iff_eq.mpr c11;have c11b1 : (a1 != 11) = false := bne_eq_false_iff_eq.mpr c11;clear c11;obtain rfl := Option.some.inj H;go_wp2;go_ret;exact ⟨by first | rfl | (simp; done) | (simp [*]; done), by repeat (first | exact Drawn0.refl _ | apply Drawn0.step)⟩
        ·rw [if_neg c11] at H;have c11b0 : (a1 == 11) = false := beq_eq_false_iff_ne.mpr c11;have c11b1 : (a1 != 11) = true := bne_iff_ne.mpr c11;obtain rfl := Option.some.inj H;go_wp2;go_ret;exact ⟨by first | rfl | (simp; done) | (simp [*]; done), by repeat (first | exact Drawn0.refl _ | apply Drawn0.step)⟩
/-! ### date_Make: function 39 -/
mutual
def date_Make.j0 : Nat → Int → Int → Int → Int → Int → Int → Bool → Option (Int × Bool)
 | 0, _, _, _, _, _, _, _ => none
 | k + 1, x0, x1, x2, x3, x4, x5, x64 => if x64 = true then (some (0, false)) else ((date_first.f x0).bind fun t247 => (date_Make.l0 k x0 x1 x3 x4 x5 (wrap64 ((wrap64 (t247 + x2)) - 1)) 1))
def date_Make.l0 : Nat → Int → Int → Int → Int → Int → Int → Int → Option (Int × Bool)
 | 0, _, _, _, _, _, _, _ => none
 | k + 1, x0, x1, x3, x4, x5, x14, x15 => if x15 < x1 then ((date_length.f k x0 x15).bind fun t248 => (date_Make.l0 k x0 x1 x3 x4 x5 (wrap64 (x14 + t248)) (wrap64 (x15 + 1)))) else (some (wrap64 ((wrap64 ((wrap64 ((wrap64 (x14 * 86400)) + (wrap64 (x3 * 3600)))) + (wrap64 (x4 * 60)))) + (mn x5 59)), true))
end
def date_Make.f (k : Nat) (a0 : Int) (a1 : Int) (a2 : Int) (a3 : Int) (a4 : Int) (a5 : Int) : Option (Int × Bool) := if a0 < 1601 then (date_Make.j0 k a0 a1 a2 a3 a4 a5 true) else (if a0 > 9999 then (date_Make.j0 k a0 a1 a2 a3 a4 a5 true) else (if a1 < 1 then (date_Make.j0 k a0 a1 a2 a3 a4 a5 true) else (if a1 > 12 then (date_Make.j0 k a0 a1 a2 a3 a4 a5 true) else (if a2 < 1 then (date_Make.j0 k a0 a1 a2 a3 a4 a5 true) else ((date_length.f k a0 a1).bind fun t246 => (if a2 > t246 then (date_Make.j0 k a0 a1 a2 a3 a4 a5 true) else (if a3 < 0 then (date_Make.j0 k a0 a1 a2 a3 a4 a5 true) else (if a3 > 23 then (date_Make.j0 k a0 a1 a2 a3 a4 a5 true) else (if a4 < 0 then (date_Make.j0 k a0 a1 a2 a3 a4 a5 true) else (if a4 > 59 then (date_Make.j0 k a0 a1 a2 a3 a4 a5 true) else (if a5 < 0 then (date_Make.j0 k a0 a1 a2 a3 a4 a5 true) else (date_Make.j0 k a0 a1 a2 a3 a4 a5 (decide (a5 > 60))))))))))))))
theorem date_Make.mono_l : ∀ k, (∀ y0 y1 y2 y3 y4 y5 y6, LeO (date_Make.j0 k y0 y1 y2 y3 y4 y5 y6) (date_Make.j0 (k + 1) y0 y1 y2 y3 y4 y5 y6)) ∧ (∀ y0 y1 y2 y3 y4 y5 y6, LeO (date_Make.l0 k y0 y1 y2 y3 y4 y5 y6) (date_Make.l0 (k + 1) y0 y1 y2 y3 y4 y5 y6))
 | 0 => ⟨fun _ _ _ _ _ _ _ r h => by simp [date_Make.j0] at h, fun _ _ _ _ _ _ _ r h => by simp [date_Make.l0] at h⟩
 | k + 1 => by
  obtain ⟨ih0, ih1⟩ := date_Make.mono_l k;refine ⟨?_, ?_⟩
  ·intro y0 y1 y2 y3 y4 y5 y6
   unfold date_Make.j0
   repeat' first
   | (with_reducible exact ih0 _ _ _ _ _ _ _)
   | (with_reducible exact ih1 _ _ _ _ _ _ _)
   | (with_reducible exact date_length.mono _ _ _)
   | (with_reducible exact LeO.refl _)
   | (with_reducible exact LeO.none _)
   | (with_reducible refine LeO.ite ?_ ?_)
   | (with_reducible refine LeO.bind ?_ (fun _ => ?_))
   | exact ih0 _ _ _ _ _ _ _
   | exact ih1 _ _ _ _ _ _ _
   | exact date_length.mono _ _ _
   | exact LeO.none _
   | refine LeO.ite ?_ ?_
   | refine LeO.bind ?_ (fun _ => ?_)
  ·intro y0 y1 y2 y3 y4 y5 y6
   unfold date_Make.l0
   repeat' first
   | (with_reducible exact ih0 _ _ _ _ _ _ _)
   | (with_reducible exact ih1 _ _ _ _ _ _ _)
   | (with_reducible exact date_length.mono _ _ _)
   | (with_reducible exact LeO.refl _)
   | (with_reducible exact LeO.none _)
   | (with_reducible refine LeO.ite ?_ ?_)
   | (with_reducible refine LeO.bind ?_ (fun _ => ?_))
   | exact ih0 _ _ _ _ _ _ _
   | exact ih1 _ _ _ _ _ _ _
   | exact date_length.mono _ _ _
   | exact LeO.none _
   | refine LeO.ite ?_ ?_
   | refine LeO.bind ?_ (fun _ => ?_)
theorem date_Make.mono : ∀ a0 a1 a2 a3 a4 a5 k, LeO (date_Make.f k a0 a1 a2 a3 a4 a5) (date_Make.f (k + 1) a0 a1 a2 a3 a4 a5) := by
 intro a0 a1 a2 a3 a4 a5 k;obtain ⟨ih0, ih1⟩ := date_Make.mono_l k
 unfold date_Make.f
 repeat' first
   | (with_reducible exact ih0 _ _ _ _ _ _ _)
   | (with_reducible exact ih1 _ _ _ _ _ _ _)
   | (with_reducible exact date_length.mono _ _ _)
   | (with_reducible exact LeO.refl _)
   | (with_reducible exact LeO.none _)
   | (with_reducible refine LeO.ite ?_ ?_)
   | (with_reducible refine LeO.bind ?_ (fun _ => ?_))
   | exact ih0 _ _ _ _ _ _ _
   | exact ih1 _ _ _ _ _ _ _
   | exact date_length.mono _ _ _
   | exact LeO.none _
   | refine LeO.ite ?_ ?_
   | refine LeO.bind ?_ (fun _ => ?_)
set_option maxHeartbeats 2000000 in
set_option maxRecDepth 100000 in
theorem date_Make.calls (k : Nat) (a0 : Int) (a1 : Int) (a2 : Int) (a3 : Int) (a4 : Int) (a5 : Int) (r1 : Int) (r2 : Bool) (w : World) (h : date_Make.f k a0 a1 a2 a3 a4 a5 = some (r1, r2)) :
  Calls Tryz.prog 39 #[.int .i64 a0, .int .i64 a1, .int .i64 a2, .int .i64 a3, .int .i64 a4, .int .i64 a5] w fun e w' => e = .returned (.tuple #[.int .i64 r1, .bool r2]) ∧ Below w.heap.size w w' := by
 have HB := Aside0.mk (Below.refl w.heap.size w);have H : (if a0 < 1601 then (date_Make.j0 k a0 a1 a2 a3 a4 a5 true) else (if a0 > 9999 then (date_Make.j0 k a0 a1 a2 a3 a4 a5 true) else (if a1 < 1 then (date_Make.j0 k a0 a1 a2 a3 a4 a5 true) else (if a1 > 12 then (date_Make.j0 k a0 a1 a2 a3 a4 a5 true) else (if a2 < 1 then (date_Make.j0 k a0 a1 a2 a3 a4 a5 true) else ((date_length.f k a0 a1).bind fun t246 => (if a2 > t246 then (date_Make.j0 k a0 a1 a2 a3 a4 a5 true) else (if a3 < 0 then (date_Make.j0 k a0 a1 a2 a3 a4 a5 true) else (if a3 > 23 then (date_Make.j0 k a0 a1 a2 a3 a4 a5 true) else (if a4 < 0 then (date_Make.j0 k a0 a1 a2 a3 a4 a5 true) else (if a4 > 59 then (date_Make.j0 k a0 a1 a2 a3 a4 a5 true) else (if a5 < 0 then (date_Make.j0 k a0 a1 a2 a3 a4 a5 true) else (date_Make.j0 k a0 a1 a2 a3 a4 a5 (decide (a5 > 60))))))))))))))) = some (r1, r2) := h;clear h;have HC7 := Aside0.mk H;clear H;go_enter Tryz.func39, Tryz.ntmps39;go_upto_region 1 with (fail);go_cut [64] (fun v64 wc => ∃ (kq : Nat) (x64_6 : Bool), v64 = .bool x64_6 ∧ Aside0 (date_Make.j0 kq a0 a1 a2 a3 a4 a5 x64_6 = some (r1, r2)) ∧ Aside0 (kq ≤ k) ∧ Aside0 (Below w.heap.size w wc))
 case first =>
  have H := HC7.out;clear HC7
  by_cases c8 : a0 < 1601
  ·rw [if_pos c8] at H
   have c8b0 : decide (a0 < 1601) = true := decide_eq_true c8;clear c8
   (first | rw [c8b0] | (simp only [i64_w, i32_w]; rw [c8b0]) | skip)
   have H' := Aside0.mk H;clear H;go_wp2;go_meet
   case rel => exact ⟨_, (true), (by first | rfl | (simp; done) | (simp [*]; done)), H', ⟨by first | omega | exact Nat.le_refl _⟩, ⟨hA HB.out⟩⟩
  ·rw [if_neg c8] at H
   have c8b0 : decide (a0 < 1601) = false := decide_eq_false c8;clear c8
   (first | rw [c8b0] | (simp only [i64_w, i32_w]; rw [c8b0]) | skip)
   by_cases c9 : a0 > 9999
   ·rw [if_pos c9] at H
    have c9b0 : decide (9999 < a0) = true := decide_eq_true c9;clear c9;have H' := Aside0.mk H;clear H;go_wp2;go_meet
    case rel => exact ⟨_, (true), (by first | rfl | (simp; done) | (simp [*]; done)), H', ⟨by first | omega | exact Nat.le_refl _⟩, ⟨hA HB.out⟩⟩
   ·rw [if_neg c9] at H
    have c9b0 : decide (9999 < a0) = false := decide_eq_false c9;clear c9
    by_cases c10 : a1 < 1
    ·rw [if_pos c10] at H
     have c10b0 : decide (a1 < 1) = true := decide_eq_true c10;clear c10;have H' := Aside0.mk H;clear H;go_wp2;go_meet
     case rel => exact ⟨_, (true), (by first | rfl | (simp; done) | (simp [*]; done)), H', ⟨by first | omega | exact Nat.le_refl _⟩, ⟨hA HB.out⟩⟩
    ·rw [if_neg c10] at H
     have c10b0 : decide (a1 < 1) = false := decide_eq_false c10;clear c10
     by_cases c11 : a1 > 12
     ·rw [if_pos c11] at H
      have c11b0 : decide (12 < a1) = true := decide_eq_true c11;clear c11;have H' := Aside0.mk H;clear H;go_wp2;go_meet
      case rel => exact ⟨_, (true), (by first | rfl | (simp; done) | (simp [*]; done)), H', ⟨by first | omega | exact Nat.le_refl _⟩, ⟨hA HB.out⟩⟩
     ·rw [if_neg c11] at H
      have c11b0 : decide (12 < a1) = false := decide_eq_false c11;clear c11
      by_cases c12 : a2 < 1
      ·rw [if_pos c12] at H
       have c12b0 : decide (a2 < 1) = true := decide_eq_true c12;clear c12;have H' := Aside0.mk H;clear H;go_wp2;go_meet
       case rel => exact ⟨_, (true), (by first | rfl | (simp; done) | (simp [*]; done)), H', ⟨by first | omega | exact Nat.le_refl _⟩, ⟨hA HB.out⟩⟩
      ·rw [if_neg c12] at H
       have c12b0 : decide (a2 < 1) = false := decide_eq_false c12;clear c12;replace H := Option.bind_eq_some_iff.mp H;obtain ⟨t246, A130, H⟩ := H;replace H : (if a2 > t246 then (date_Make.j0 k a0 a1 a2 a3 a4 a5 true) else (if a3 < 0 then (date_Make.j0 k a0 a1 a2 a3 a4 a5 true) else (if a3 > 23 then (date_Make.j0 k a0 a1 a2 a3 a4 a5 true) else (if a4 < 0 then (date_Make.j0 k a0 a1 a2 a3 a4 a5 true) else (if a4 > 59 then (date_Make.j0 k a0 a1 a2 a3 a4 a5 true) else (if a5 < 0 then (date_Make.j0 k a0 a1 a2 a3 a4 a5 true) else (date_Make.j0 k a0 a1 a2 a3 a4 a5 (decide (a5 > 60))))))))) = some (r1, r2) := H;have A13 := Aside0.mk A130;clear A130
       by_cases c14 : a2 > t246
       ·rw [if_pos c14] at H
        have c14b0 : decide (t246 < a2) = true := decide_eq_true c14;clear c14;have H' := Aside0.mk H;clear H;go_wp2_with (first | (go_at_call 55; (with_reducible refine (date_length.calls k a0 a1 t246 _ A13.out).mono ?_); rintro e w' ⟨rfl, ⟨nd, rfl⟩⟩));go_meet
        case rel => exact ⟨_, (true), (by first | rfl | (simp; done) | (simp [*]; done)), H', ⟨by first | omega | exact Nat.le_refl _⟩, ⟨hA HB.out⟩⟩
       ·rw [if_neg c14] at H
        have c14b0 : decide (t246 < a2) = false := decide_eq_false c14;clear c14
        by_cases c15 : a3 < 0
        ·rw [if_pos c15] at H
         have c15b0 : decide (a3 < 0) = true := decide_eq_true c15;clear c15;have H' := Aside0.mk H;clear H;go_wp2_with (first | (go_at_call 55; (with_reducible refine (date_length.calls k a0 a1 t246 _ A13.out).mono ?_); rintro e w' ⟨rfl, ⟨nd, rfl⟩⟩));go_meet
         case rel => exact ⟨_, (true), (by first | rfl | (simp; done) | (simp [*]; done)), H', ⟨by first | omega | exact Nat.le_refl _⟩, ⟨hA HB.out⟩⟩
        ·rw [if_neg c15] at H
         have c15b0 : decide (a3 < 0) = false := decide_eq_false c15;clear c15
         by_cases c16 : a3 > 23
         ·rw [if_pos c16] at H
          have c16b0 : decide (23 < a3) = true := decide_eq_true c16;clear c16;have H' := Aside0.mk H;clear H;go_wp2_with (first | (go_at_call 55; (with_reducible refine (date_length.calls k a0 a1 t246 _ A13.out).mono ?_); rintro e w' ⟨rfl, ⟨nd, rfl⟩⟩));go_meet
          case rel => exact ⟨_, (true), (by first | rfl | (simp; done) | (simp [*]; done)), H', ⟨by first | omega | exact Nat.le_refl _⟩, ⟨hA HB.out⟩⟩
         ·rw [if_neg c16] at H
          have c16b0 : decide (23 < a3) = false := decide_eq_false c16;clear c16
          by_cases c17 : a4 < 0
          ·rw [if_pos c17] at H
           have c17b0 : decide (a4 < 0) = true := decide_eq_true c17;clear c17;have H' := Aside0.mk H;clear H;go_wp2_with (first | (go_at_call 55; (with_reducible refine (date_length.calls k a0 a1 t246 _ A13.out).mono ?_); rintro e w' ⟨rfl, ⟨nd, rfl⟩⟩));go_meet
           case rel => exact ⟨_, (true), (by first | rfl | (simp; done) | (simp [*]; done)), H', ⟨by first | omega | exact Nat.le_refl _⟩, ⟨hA HB.out⟩⟩
          ·rw [if_neg c17] at H
           have c17b0 : decide (a4 < 0) = false := decide_eq_false c17;clear c17
           by_cases c18 : a4 > 59
           ·rw [if_pos c18] at H
            have c18b0 : decide (59 < a4) = true := decide_eq_true c18;clear c18;have H' := Aside0.mk H;clear H;go_wp2_with (first | (go_at_call 55; (with_reducible refine (date_length.calls k a0 a1 t246 _ A13.out).mono ?_); rintro e w' ⟨rfl, ⟨nd, rfl⟩⟩));go_meet
            case rel => exact ⟨_, (true), (by first | rfl | (simp; done) | (simp [*]; done)), H', ⟨by first | omega | exact Nat.le_refl _⟩, ⟨hA HB.out⟩⟩
           ·rw [if_neg c18] at H
            have c18b0 : decide (59 < a4) = false := decide_eq_false c18;clear c18
            by_cases c19 : a5 < 0
            ·rw [if_pos c19] at H
             have c19b0 : decide (a5 < 0) = true := decide_eq_true c19;clear c19;have H' := Aside0.mk H;clear H;go_wp2_with (first | (go_at_call 55; (with_reducible refine (date_length.calls k a0 a1 t246 _ A13.out).mono ?_); rintro e w' ⟨rfl, ⟨nd, rfl⟩⟩));go_meet
             case rel => exact ⟨_, (true), (by first | rfl | (simp; done) | (simp [*]; done)), H', ⟨by first | omega | exact Nat.le_refl _⟩, ⟨hA HB.out⟩⟩
            ·rw [if_neg c19] at H
             have c19b0 : decide (a5 < 0) = false := decide_eq_false c19;clear c19;have H' := Aside0.mk H;clear H;go_wp2_with (first | (go_at_call 55; (with_reducible refine (date_length.calls k a0 a1 t246 _ A13.out).mono ?_); rintro e w' ⟨rfl, ⟨nd, rfl⟩⟩));go_meet
             case rel => exact ⟨_, (decide (a5 > 60)), (by first | rfl | (simp; done) | (simp [*]; done)), H', ⟨by first | omega | exact Nat.le_refl _⟩, ⟨hA HB.out⟩⟩
 case rest =>
  clear HC7;(try clear c1);(try clear p2);(try clear c3);(try clear c8);(try clear c8b0);(try clear c9);(try clear c9b0);(try clear c10);(try clear c10b0);(try clear c11);(try clear c11b0);(try clear c12);(try clear c12b0);(try clear c14);(try clear c14b0);(try clear c15);(try clear c15b0);(try clear c16);(try clear c16b0);(try clear c17);(try clear c17b0);(try clear c18);(try clear c18b0);(try clear c19);(try clear c19b0);obtain ⟨kq, x64_6, rfl, HA, HJ6, HB⟩ := hcut
  cases kq with
  | zero => exact absurd HA.out (by simp [date_Make.j0])
  | succ kj6 =>
   have H := HA.out;clear HA;simp only [date_Make.j0] at H
   by_cases c20 : x64_6 = true
   ·subst c20;(have H1 : (some (0, false)) = some (r1, r2) := by rw [if_pos rfl] at H; exact H);clear H;have H := H1;clear H1;simp only [Option.some.injEq, Prod.mk.injEq] at H;obtain ⟨rfl, rfl⟩ := H;go_wp2;go_ret2;exact ⟨by first | rfl | (simp [errW_none, errW_some] <;> rfl) | (simp [*, errW_none, errW_some] <;> rfl), by repeat (first | (with_reducible first | exact HB.out | apply below_alloc | apply pw_below_drewN | apply below_drew1) | exact HB.out)⟩
   ·replace c20 := Bool.eq_false_iff.mpr c20
    subst c20;(have H1 : ((date_first.f a0).bind fun t247 => (date_Make.l0 kj6 a0 a1 a3 a4 a5 (wrap64 ((wrap64 (t247 + a2)) - 1)) 1)) = some (r1, r2) := by rw [if_neg (show ¬ (false = true) by decide)] at H; exact H);clear H;have H := H1;clear H1;replace H := Option.bind_eq_some_iff.mp H;obtain ⟨t247, A210, H⟩ := H;replace H : (date_Make.l0 kj6 a0 a1 a3 a4 a5 (wrap64 ((wrap64 (t247 + a2)) - 1)) 1) = some (r1, r2) := H;have A21 := Aside0.mk A210;clear A210;have H' := Aside0.mk H;clear H;go_wp2_with (first | ((with_reducible refine gate_callee (f:=56) rfl ?_); refine goesL_ (some 66) rfl rfl Tryz.func56 (by kernel_rfl) rfl #[.int .i64 a0] rfl (by (try simp only [List.map_toArray, List.map_cons, List.map_nil]); first | done | rfl | (simp only [List.length_drop, List.length_take]; rfl)) ?_; (with_reducible refine (date_first.calls a0 t247 _ A21.out).mono ?_); rintro e w' ⟨rfl, ⟨nd, rfl⟩⟩; refine ⟨_, rfl, ?_⟩));go_loopg [14, 15] kj6 (fun kq v14 v15 w' => ∃ (x14_2 : Int) (x15_2 : Int), v14 = .int .i64 x14_2 ∧ v15 = .int .i64 x15_2 ∧ Aside0 (date_Make.l0 kq a0 a1 a3 a4 a5 x14_2 x15_2 = some (r1, r2)) ∧ Aside0 (kq ≤ kj6) ∧ Aside0 (Below w.heap.size w w'))
    case atStart => exact ⟨(wrap64 ((wrap64 (t247 + a2)) - 1)), (1), (by first | rfl | (simp; done) | (simp [*]; done)), (by first | rfl | (simp; done) | (simp [*]; done)), H', ⟨Nat.le_refl _⟩, ⟨hA HB.out⟩⟩
    case round =>
     clear H';(try clear c1);(try clear c2);(try clear p2);(try clear c3);(try clear c5);(try clear p6);(try clear c8);(try clear c8b0);(try clear c9);(try clear c9b0);(try clear c10);(try clear c10b0);(try clear c11);(try clear c11b0);(try clear c12);(try clear c12b0);(try clear c14);(try clear c14b0);(try clear c15);(try clear c15b0);(try clear c16);(try clear c16b0);(try clear c17);(try clear c17b0);(try clear c18);(try clear c18b0);(try clear c19);(try clear c19b0);(try clear c20);(try clear p2);obtain ⟨x14_2, x15_2, rfl, rfl, HA, HK2, HB⟩ := hrel
     cases gk with
     | zero => exact absurd HA.out (by simp [date_Make.l0])
     | succ k2 =>
      have H := HA.out;clear HA;simp only [date_Make.l0] at H
      by_cases c22 : x15_2 < a1
      ·rw [if_pos c22] at H
       have c22b0 : decide (x15_2 < a1) = true := decide_eq_true c22;clear c22;replace H := Option.bind_eq_some_iff.mp H;obtain ⟨t248, A230, H⟩ := H;replace H : (date_Make.l0 k2 a0 a1 a3 a4 a5 (wrap64 (x14_2 + t248)) (wrap64 (x15_2 + 1))) = some (r1, r2) := H;have A23 := Aside0.mk A230;clear A230;have H' := Aside0.mk H;clear H;go_wp2_with (first | ((with_reducible refine gate_callee (f:=55) rfl ?_); refine goesL_ (some 78) rfl rfl Tryz.func55 (by kernel_rfl) rfl #[.int .i64 a0, .int .i64 x15_2] rfl (by (try simp only [List.map_toArray, List.map_cons, List.map_nil]); first | done | rfl | (simp only [List.length_drop, List.length_take]; rfl)) ?_; (with_reducible refine (date_length.calls k2 a0 x15_2 t248 _ A23.out).mono ?_); rintro e w' ⟨rfl, ⟨nd, rfl⟩⟩; refine ⟨_, rfl, ?_⟩));go_roundg k2
       case measure => have := HJ6.out; have := HK2.out; omega
       case rel => exact ⟨(wrap64 (x14_2 + t248)), (wrap64 (x15_2 + 1)), (by first | rfl | (simp; done) | (simp [*]; done)), (by first | rfl | (simp; done) | (simp [*]; done)), H', ⟨by have := HJ6.out; have := HK2.out; omega⟩, ⟨hA HB.out⟩⟩
      ·rw [if_neg c22] at H;have c22b0 : decide (x15_2 < a1) = false := decide_eq_false c22;clear c22;obtain ⟨ji24, hji24⟩ : ∃ j_ : Int, (mn a5 59) = j_ := ⟨_, rfl⟩;(replace H : (some (wrap64 ((wrap64 ((wrap64 ((wrap64 (x14_2 * 86400)) + (wrap64 (a3 * 3600)))) + (wrap64 (a4 * 60)))) + (ji24)), true)) = some (r1, r2) := by first | (rw [hji24] at H; exact H) | (simp only [hji24] at H ⊢; exact H));have hji24_ : (if 59 < a5 then 59 else a5) = ji24 := hji24;simp only [Option.some.injEq, Prod.mk.injEq] at H;obtain ⟨rfl, rfl⟩ := H;go_wp2;go_ret2;exact ⟨by first | rfl | (simp [errW_none, errW_some] <;> rfl) | (simp only [← hji24]; first | rfl | (simp [errW_none, errW_some] <;> rfl)) | (simp [*, errW_none, errW_some] <;> rfl), by repeat (first | (with_reducible first | exact HB.out | apply below_alloc | apply pw_below_drewN | apply below_drew1) | exact HB.out)⟩
end Go.Proofs.YtfjeagglminhoaaGreatDoor.Q
