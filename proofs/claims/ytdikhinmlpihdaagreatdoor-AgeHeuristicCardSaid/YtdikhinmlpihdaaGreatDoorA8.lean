-- Written by a program of this session's (wip/xprint.py), out of the seat's translation.
import Derived.Test.YtdikhinmlpihdaaGreatDoorA0
import Derived.Test.YtdikhinmlpihdaaGreatDoorA1
import Derived.Test.YtdikhinmlpihdaaGreatDoorA7
namespace Go.Proofs.YtdikhinmlpihdaaGreatDoor.A
open Go.RowKit Go.Proofs.YtdikhinmlpihdaaGreatDoorW.PrintWords Go.Proofs.YtdikhinmlpihdaaGreatDoorW.PrintLast Go.Proofs.YtdikhinmlpihdaaGreatDoorW.PrintMore
open Go.Proofs.YtdikhinmlpihdaaGreatDoor.Own (Y Z sA sB sC)
attribute [local go_sem] max2_int min2_int max_two min_two max_three min_three max_four min_four   -- for this text's walks alone
set_option linter.unusedVariables false
set_option linter.unusedSimpArgs false
/-! ### cc_Seconds: function 43 -/
mutual
def cc_Seconds.j0 : Nat → ByteArray → Bool → Option (Int × Bool)
 | 0, _, _ => none
 | k + 1, x0, x12 => if x12 = true then (some (0, false)) else (cc_Seconds.l0 k x0 0 (x0.size : Int) 0)
def cc_Seconds.l0 : Nat → ByteArray → Int → Int → Int → Option (Int × Bool)
 | 0, _, _, _, _ => none
 | k + 1, x0, x4, x14, x15 => if x15 < x14 then (if 0 ≤ x15 then (if x15 < (x0.size : Int) then (if (bt x0 x15) < 48 then (some (0, false)) else (if (bt x0 x15) > 57 then (some (0, false)) else ((bits_Clip.f (wrap64 ((wrap64 (x4 * 10)) + (((bt x0 x15) - 48) % 256)))).bind fun t277 => (cc_Seconds.l0 k x0 t277 x14 (wrap64 (x15 + 1)))))) else (none)) else (none)) else (some (x4, true))
end
def cc_Seconds.f (k : Nat) (a0 : ByteArray) : Option (Int × Bool) := if a0.toList = ([] : List UInt8) then (cc_Seconds.j0 k a0 true) else (cc_Seconds.j0 k a0 (decide ((a0.size : Int) > 4000)))
theorem cc_Seconds.mono_l : ∀ k, (∀ y0 y1, LeO (cc_Seconds.j0 k y0 y1) (cc_Seconds.j0 (k + 1) y0 y1)) ∧ (∀ y0 y1 y2 y3, LeO (cc_Seconds.l0 k y0 y1 y2 y3) (cc_Seconds.l0 (k + 1) y0 y1 y2 y3))
 | 0 => ⟨fun _ _ r h => by simp [cc_Seconds.j0] at h, fun _ _ _ _ r h => by simp [cc_Seconds.l0] at h⟩
 | k + 1 => by
  obtain ⟨ih0, ih1⟩ := cc_Seconds.mono_l k;refine ⟨?_, ?_⟩
  ·intro y0 y1
   unfold cc_Seconds.j0
   repeat' first
   | (with_reducible exact ih0 _ _)
   | (with_reducible exact ih1 _ _ _ _)
   | (with_reducible exact LeO.refl _)
   | (with_reducible exact LeO.none _)
   | (with_reducible refine LeO.ite ?_ ?_)
   | (with_reducible refine LeO.bind ?_ (fun _ => ?_))
   | exact ih0 _ _
   | exact ih1 _ _ _ _
   | exact LeO.none _
   | refine LeO.ite ?_ ?_
   | refine LeO.bind ?_ (fun _ => ?_)
  ·intro y0 y1 y2 y3
   unfold cc_Seconds.l0
   repeat' first
   | (with_reducible exact ih0 _ _)
   | (with_reducible exact ih1 _ _ _ _)
   | (with_reducible exact LeO.refl _)
   | (with_reducible exact LeO.none _)
   | (with_reducible refine LeO.ite ?_ ?_)
   | (with_reducible refine LeO.bind ?_ (fun _ => ?_))
   | exact ih0 _ _
   | exact ih1 _ _ _ _
   | exact LeO.none _
   | refine LeO.ite ?_ ?_
   | refine LeO.bind ?_ (fun _ => ?_)
theorem cc_Seconds.mono : ∀ a0 k, LeO (cc_Seconds.f k a0) (cc_Seconds.f (k + 1) a0) := by
 intro a0 k;obtain ⟨ih0, ih1⟩ := cc_Seconds.mono_l k
 unfold cc_Seconds.f
 repeat' first
   | (with_reducible exact ih0 _ _)
   | (with_reducible exact ih1 _ _ _ _)
   | (with_reducible exact LeO.refl _)
   | (with_reducible exact LeO.none _)
   | (with_reducible refine LeO.ite ?_ ?_)
   | (with_reducible refine LeO.bind ?_ (fun _ => ?_))
   | exact ih0 _ _
   | exact ih1 _ _ _ _
   | exact LeO.none _
   | refine LeO.ite ?_ ?_
   | refine LeO.bind ?_ (fun _ => ?_)
set_option maxHeartbeats 2000000 in
set_option maxRecDepth 100000 in
theorem cc_Seconds.calls (k : Nat) (a0 : ByteArray) (r1 : Int) (r2 : Bool) (w : World) (h : cc_Seconds.f k a0 = some (r1, r2)) :
  Calls Tryz.prog 43 #[.string a0] w fun e w' => e = .returned (.tuple #[.int .i64 r1, .bool r2]) ∧ Below w.heap.size w w' := by
 have HB := Aside0.mk (Below.refl w.heap.size w);have H : (if a0.toList = ([] : List UInt8) then (cc_Seconds.j0 k a0 true) else (cc_Seconds.j0 k a0 (decide ((a0.size : Int) > 4000)))) = some (r1, r2) := h;clear h;have HC2 := Aside0.mk H;clear H;go_enter Tryz.func43, Tryz.ntmps43;go_upto_region 1 with (fail);go_cut [12] (fun v12 wc => ∃ (kq : Nat) (x12_1 : Bool), v12 = .bool x12_1 ∧ Aside0 (cc_Seconds.j0 kq a0 x12_1 = some (r1, r2)) ∧ Aside0 (kq ≤ k) ∧ Aside0 (Below w.heap.size w wc))
 case first =>
  have H := HC2.out;clear HC2
  by_cases c3 : a0.toList = ([] : List UInt8)
  ·rw [if_pos c3] at H
   have c3b0 : (a0.toList == ([] : List UInt8)) = true := beq_iff_eq.mpr c3;have c3b1 : (a0.toList != ([] : List UInt8)) = false := bne_eq_false_iff_eq.mpr c3;clear c3
   (first | rw [c3b0] | (simp only [i64_w, i32_w]; rw [c3b0]) | skip)
   have H' := Aside0.mk H;clear H;go_wp2;go_meet
   case rel => exact ⟨_, (true), (by first | rfl | (simp; done) | (simp [*]; done)), H', ⟨by first | omega | exact Nat.le_refl _⟩, ⟨by repeat (first | (with_reducible first | exact HB.out | apply below_alloc | apply pw_below_drewN | apply below_drew1) | exact HB.out)⟩⟩
  ·rw [if_neg c3] at H
   have c3b0 : (a0.toList == ([] : List UInt8)) = false := beq_eq_false_iff_ne.mpr c3;have c3b1 : (a0.toList != ([] : List UInt8)) = true := bne_iff_ne.mpr c3
   (first | rw [c3b0] | (simp only [i64_w, i32_w]; rw [c3b0]) | skip)
   have H' := Aside0.mk H;clear H;go_wp2;go_meet
   case rel => exact ⟨_, (decide ((a0.size : Int) > 4000)), (by first | rfl | (simp; done) | (simp [*]; done)), H', ⟨by first | omega | exact Nat.le_refl _⟩, ⟨by repeat (first | (with_reducible first | exact HB.out | apply below_alloc | apply pw_below_drewN | apply below_drew1) | exact HB.out)⟩⟩
 case rest =>
  clear HC2;(try clear p2);(try clear c3);(try clear c3b0);(try clear c3b1);obtain ⟨kq, x12_1, rfl, HA, HJ1, HB⟩ := hcut
  cases kq with
  | zero => exact absurd HA.out (by simp [cc_Seconds.j0])
  | succ kj1 =>
   have H := HA.out;clear HA;simp only [cc_Seconds.j0] at H
   by_cases c4 : x12_1 = true
   ·subst c4;(have H1 : (some (0, false)) = some (r1, r2) := by rw [if_pos rfl] at H; exact H);clear H;have H := H1;clear H1;simp only [Option.some.injEq, Prod.mk.injEq] at H;obtain ⟨rfl, rfl⟩ := H;go_wp2;go_ret2;exact ⟨by first | rfl | (simp [errW_none, errW_some] <;> rfl) | (simp [*, errW_none, errW_some] <;> rfl), by repeat (first | (with_reducible first | exact HB.out | apply below_alloc | apply pw_below_drewN | apply below_drew1) | exact HB.out)⟩
   ·replace c4 := Bool.eq_false_iff.mpr c4
    subst c4;(have H1 : (cc_Seconds.l0 kj1 a0 0 (a0.size : Int) 0) = some (r1, r2) := by rw [if_neg (show ¬ (false = true) by decide)] at H; exact H);clear H;have H := H1;clear H1;have H' := Aside0.mk H;clear H;go_wp2;go_loopg [4, 15] kj1 (fun kq v4 v15 w' => ∃ (x4_2 : Int) (x15_2 : Int), v4 = .int .i64 x4_2 ∧ v15 = .int .i64 x15_2 ∧ Aside0 (cc_Seconds.l0 kq a0 x4_2 (a0.size : Int) x15_2 = some (r1, r2)) ∧ Aside0 (kq ≤ kj1) ∧ Aside0 (Below w.heap.size w w'))
    case atStart => exact ⟨(0), (0), (by first | rfl | (simp; done) | (simp [*]; done)), (by first | rfl | (simp; done) | (simp [*]; done)), H', ⟨Nat.le_refl _⟩, ⟨by repeat (first | (with_reducible first | exact HB.out | apply below_alloc | apply pw_below_drewN | apply below_drew1) | exact HB.out)⟩⟩
    case round =>
     clear H';(try clear p2);(try clear c3);(try clear c3b0);(try clear c3b1);(try clear c4);(try clear p2);obtain ⟨x4_2, x15_2, rfl, rfl, HA, HK2, HB⟩ := hrel
     cases gk with
     | zero => exact absurd HA.out (by simp [cc_Seconds.l0])
     | succ k2 =>
      have H := HA.out;clear HA;simp only [cc_Seconds.l0] at H
      by_cases c5 : x15_2 < (a0.size : Int)
      ·rw [if_pos c5] at H
       have c5b0 : decide (x15_2 < (a0.size : Int)) = true := decide_eq_true c5;clear c5
       by_cases c6 : 0 ≤ x15_2
       ·rw [if_pos c6] at H
        have c6b0 : decide (0 ≤ x15_2) = true := decide_eq_true c6;clear c6
        by_cases c7 : x15_2 < (a0.size : Int)
        ·rw [if_pos c7] at H
         have c7b0 : decide (x15_2 < (a0.size : Int)) = true := decide_eq_true c7;clear c7
         by_cases c9 : (bt a0 x15_2) < 48
         ·rw [if_pos c9] at H;have c9b0 : decide ((bt a0 x15_2) < 48) = true := decide_eq_true c9;clear c9;simp only [Option.some.injEq, Prod.mk.injEq] at H;obtain ⟨rfl, rfl⟩ := H;have p8 : 0 ≤ (x15_2 : Int) := of_decide_eq_true (by first | (with_reducible assumption) | assumption);have q8 : x15_2 < (a0.size : Int) := of_decide_eq_true (by first | (with_reducible assumption) | assumption);have hx8 := bt_at a0 x15_2;replace p8 := eq_true p8;replace q8 := eq_true q8;go_wp2;go_ret2;exact ⟨by first | rfl | (simp [errW_none, errW_some] <;> rfl) | (simp [*, errW_none, errW_some] <;> rfl), by repeat (first | (with_reducible first | exact HB.out | apply below_alloc | apply pw_below_drewN | apply below_drew1) | exact HB.out)⟩
         ·rw [if_neg c9] at H
          have c9b0 : decide ((bt a0 x15_2) < 48) = false := decide_eq_false c9;clear c9
          by_cases c11 : (bt a0 x15_2) > 57
          ·rw [if_pos c11] at H;have c11b0 : decide (57 < (bt a0 x15_2)) = true := decide_eq_true c11;clear c11;simp only [Option.some.injEq, Prod.mk.injEq] at H;obtain ⟨rfl, rfl⟩ := H;have p8 : 0 ≤ (x15_2 : Int) := of_decide_eq_true (by first | (with_reducible assumption) | assumption);have q8 : x15_2 < (a0.size : Int) := of_decide_eq_true (by first | (with_reducible assumption) | assumption);have hx8 := bt_at a0 x15_2;replace p8 := eq_true p8;replace q8 := eq_true q8;have p10 : 0 ≤ (x15_2 : Int) := of_decide_eq_true (by first | (with_reducible assumption) | assumption);have q10 : x15_2 < (a0.size : Int) := of_decide_eq_true (by first | (with_reducible assumption) | assumption);have hx10 := bt_at a0 x15_2;replace p10 := eq_true p10;replace q10 := eq_true q10;go_wp2;go_ret2;exact ⟨by first | rfl | (simp [errW_none, errW_some] <;> rfl) | (simp [*, errW_none, errW_some] <;> rfl), by repeat (first | (with_reducible first | exact HB.out | apply below_alloc | apply pw_below_drewN | apply below_drew1) | exact HB.out)⟩
          ·rw [if_neg c11] at H
           have c11b0 : decide (57 < (bt a0 x15_2)) = false := decide_eq_false c11;clear c11;replace H := Option.bind_eq_some_iff.mp H;obtain ⟨t277, A130, H⟩ := H;replace H : (cc_Seconds.l0 k2 a0 t277 (a0.size : Int) (wrap64 (x15_2 + 1))) = some (r1, r2) := H;have A13 := Aside0.mk A130;clear A130;have H' := Aside0.mk H;clear H;have p8 : 0 ≤ (x15_2 : Int) := of_decide_eq_true (by first | (with_reducible assumption) | assumption);have q8 : x15_2 < (a0.size : Int) := of_decide_eq_true (by first | (with_reducible assumption) | assumption);have hx8 := bt_at a0 x15_2;replace p8 := eq_true p8;replace q8 := eq_true q8;have p10 : 0 ≤ (x15_2 : Int) := of_decide_eq_true (by first | (with_reducible assumption) | assumption);have q10 : x15_2 < (a0.size : Int) := of_decide_eq_true (by first | (with_reducible assumption) | assumption);have hx10 := bt_at a0 x15_2;replace p10 := eq_true p10;replace q10 := eq_true q10;have p12 : 0 ≤ (x15_2 : Int) := of_decide_eq_true (by first | (with_reducible assumption) | assumption);have q12 : x15_2 < (a0.size : Int) := of_decide_eq_true (by first | (with_reducible assumption) | assumption);have hx12 := bt_at a0 x15_2;replace p12 := eq_true p12;replace q12 := eq_true q12;go_wp2_with (first | ((with_reducible refine gate_callee (f:=20) rfl ?_); refine goesL_ (some 36) rfl rfl Tryz.func20 (by kernel_rfl) rfl #[.int .i64 (wrap64 ((wrap64 (x4_2 * 10)) + (((bt a0 x15_2) - 48) % 256)))] rfl (by (try simp only [List.map_toArray, List.map_cons, List.map_nil]); first | done | rfl | (simp only [List.length_drop, List.length_take]; rfl)) ?_; (with_reducible refine (bits_Clip.calls (wrap64 ((wrap64 (x4_2 * 10)) + (((bt a0 x15_2) - 48) % 256))) t277 _ A13.out).mono ?_); rintro e w14 ⟨rfl, hb⟩; refine ⟨_, rfl, ?_⟩; have n0_ := Aside0.mk (below_step (by repeat (first | (with_reducible first | exact HB.out | apply below_alloc | apply pw_below_drewN | apply below_drew1) | exact HB.out)) hb); clear HB; have HB := n0_; clear n0_; (try clear hb); (try clear hb2); (try clear hk); (try clear hi)));go_roundg k2
           case measure => have := HJ1.out; have := HK2.out; omega
           case rel => exact ⟨(t277), (wrap64 (x15_2 + 1)), (by first | rfl | (simp; done) | (simp [*]; done)), (by first | rfl | (simp; done) | (simp [*]; done)), H', ⟨by have := HJ1.out; have := HK2.out; omega⟩, ⟨by repeat (first | (with_reducible first | exact HB.out | apply below_alloc | apply pw_below_drewN | apply below_drew1) | exact HB.out)⟩⟩
        ·rw [if_neg c7] at H;exact absurd H (by simp)
       ·rw [if_neg c6] at H;exact absurd H (by simp)
      ·rw [if_neg c5] at H;have c5b0 : decide (x15_2 < (a0.size : Int)) = false := decide_eq_false c5;clear c5;simp only [Option.some.injEq, Prod.mk.injEq] at H;obtain ⟨rfl, rfl⟩ := H;go_wp2;go_ret2;exact ⟨by first | rfl | (simp [errW_none, errW_some] <;> rfl) | (simp [*, errW_none, errW_some] <;> rfl), by repeat (first | (with_reducible first | exact HB.out | apply below_alloc | apply pw_below_drewN | apply below_drew1) | exact HB.out)⟩
/-! ### age_told: function 25 -/
def age_told.l0 : Nat → Int → List ByteArray → Int → Int → Option (Int)
 | 0, _, _, _, _ => none
 | k + 1, x3, x9, x10, x11 => if x11 < x10 then (if 0 ≤ x11 then (if x11 < (x9.length : Int) then ((cc_Seconds.f k (rdOf ByteArray.empty x9 x11)).bind fun bt282 => (if bt282.2 = true then (age_told.l0 k (mx x3 bt282.1) x9 x10 (wrap64 (x11 + 1))) else (age_told.l0 k (mx x3 2147483648) x9 x10 (wrap64 (x11 + 1))))) else (none)) else (none)) else (some x3)
def age_told.f (k : Nat) (l0 : List (S35)) : Option (Int) := (head_All.f k l0 (⟨#[65, 103, 101]⟩ : ByteArray)).bind fun t278 => (age_told.l0 k 0 t278 (t278.length : Int) 0)
theorem age_told.mono_l : ∀ k, (∀ y0 y1 y2 y3, LeO (age_told.l0 k y0 y1 y2 y3) (age_told.l0 (k + 1) y0 y1 y2 y3))
 | 0 => fun _ _ _ _ r h => by simp [age_told.l0] at h
 | k + 1 => by
  have ih0 := age_told.mono_l k
  ·intro y0 y1 y2 y3
   unfold age_told.l0
   repeat' first
   | (with_reducible exact ih0 _ _ _ _)
   | (with_reducible exact cc_Seconds.mono _ _)
   | (with_reducible exact head_All.mono _ _ _)
   | (with_reducible exact LeO.refl _)
   | (with_reducible exact LeO.none _)
   | (with_reducible refine LeO.ite ?_ ?_)
   | (with_reducible refine LeO.bind ?_ (fun _ => ?_))
   | exact ih0 _ _ _ _
   | exact cc_Seconds.mono _ _
   | exact head_All.mono _ _ _
   | exact LeO.none _
   | refine LeO.ite ?_ ?_
   | refine LeO.bind ?_ (fun _ => ?_)
theorem age_told.mono : ∀ a0 k, LeO (age_told.f k a0) (age_told.f (k + 1) a0) := by
 intro a0 k;have ih0 := age_told.mono_l k
 unfold age_told.f
 repeat' first
   | (with_reducible exact ih0 _ _ _ _)
   | (with_reducible exact cc_Seconds.mono _ _)
   | (with_reducible exact head_All.mono _ _ _)
   | (with_reducible exact LeO.refl _)
   | (with_reducible exact LeO.none _)
   | (with_reducible refine LeO.ite ?_ ?_)
   | (with_reducible refine LeO.bind ?_ (fun _ => ?_))
   | exact ih0 _ _ _ _
   | exact cc_Seconds.mono _ _
   | exact head_All.mono _ _ _
   | exact LeO.none _
   | refine LeO.ite ?_ ?_
   | refine LeO.bind ?_ (fun _ => ?_)
set_option maxHeartbeats 2000000 in
set_option maxRecDepth 100000 in
theorem age_told.calls (k : Nat) (A0 : Option Addr) (c0 : Nat) (l0 : List (S35)) (r : Int) (w : World) (hr0 : Kd.C k35 w A0 l0.length l0) (hc0 : l0.length ≤ c0) (h : age_told.f k l0 = some r) :
  Calls Tryz.prog 25 #[.slice A0 l0.length c0] w fun e w' => e = .returned (.int .i64 r) ∧ Below w.heap.size w w' := by
 have HR0 := Aside0.mk hr0;have HC0 := Aside0.mk hc0;clear hr0 hc0;have HB := Aside0.mk (Below.refl w.heap.size w);have H : ((head_All.f k l0 (⟨#[65, 103, 101]⟩ : ByteArray)).bind fun t278 => (age_told.l0 k 0 t278 (t278.length : Int) 0)) = some r := h;clear h;replace H := Option.bind_eq_some_iff.mp H;obtain ⟨t278, A20, H⟩ := H;replace H : (age_told.l0 k 0 t278 (t278.length : Int) 0) = some r := H;have A2 := Aside0.mk A20;clear A20;have H' := Aside0.mk H;clear H;go_enter Tryz.func25, Tryz.ntmps25;go_wp2_with (first | ((with_reducible refine gate_callee (f:=31) rfl ?_); refine goesL_ (some 9) rfl rfl Tryz.func31 (by kernel_rfl) rfl #[.slice A0 l0.length c0, .string (⟨#[65, 103, 101]⟩ : ByteArray)] rfl (by (try simp only [List.map_toArray, List.map_cons, List.map_nil]); first | done | rfl | (simp only [List.length_drop, List.length_take]; rfl)) ?_; (with_reducible refine (head_All.calls k _ _ l0 (⟨#[65, 103, 101]⟩ : ByteArray) t278 _ ?side1 ?side2 A2.out).mono ?_); (case side1 => repeat (first | exact HR0.out | (with_reducible refine Kd.C_alloc ?_ _) | (with_reducible refine Kd.C_drewN ?_ _) | (with_reducible refine Kd.C_drew ?_))); (case side2 => exact HC0.out); rintro e w3 ⟨v279, rfl, ho0, hb⟩; refine ⟨_, rfl, ?_⟩; have n0_ := Aside0.mk (Kd.R_lower ho0 (below_size (by repeat (first | (with_reducible first | exact HB.out | apply below_alloc | apply pw_below_drewN | apply below_drew1) | exact HB.out)))); have n1_ := Aside0.mk (below_step (by repeat (first | (with_reducible first | exact HB.out | apply below_alloc | apply pw_below_drewN | apply below_drew1) | exact HB.out)) hb); clear HB; have HO280 := n0_; have HB := n1_; clear n0_ n1_; (try clear hb); (try clear hb2); (try clear hk); (try clear hi); (try clear ho0); obtain ⟨Ao4, co4, eo4⟩ := Kd.R_slice HO280.out; subst eo4));go_loopg [3, 11] k (fun kq v3 v11 w' => ∃ (x3_1 : Int) (x11_1 : Int), v3 = .int .i64 x3_1 ∧ v11 = .int .i64 x11_1 ∧ Aside0 (age_told.l0 kq x3_1 t278 (t278.length : Int) x11_1 = some r) ∧ Aside0 (kq ≤ k) ∧ Aside0 (Kd.R Kd.string 9 w' w.heap.size (fun _ => True) (.slice Ao4 t278.length co4) t278) ∧ Aside0 (Below w.heap.size w w'))
 case atStart => exact ⟨(0), (0), (by first | rfl | (simp; done) | (simp [*]; done)), (by first | rfl | (simp; done) | (simp [*]; done)), H', ⟨Nat.le_refl _⟩, ⟨by (with_reducible repeat (first | apply Kd.R_alloc | apply Kd.R_drewN | apply Kd.R_drew)); exact HO280.out⟩, ⟨by repeat (first | (with_reducible first | exact HB.out | apply below_alloc | apply pw_below_drewN | apply below_drew1) | exact HB.out)⟩⟩
 case round =>
  clear H';(try clear c2);(try clear p2);(try clear c3);obtain ⟨x3_1, x11_1, rfl, rfl, HA, HK1, HO_9, HB⟩ := hrel
  cases gk with
  | zero => exact absurd HA.out (by simp [age_told.l0])
  | succ k1 =>
   have H := HA.out;clear HA;simp only [age_told.l0] at H
   by_cases c5 : x11_1 < (t278.length : Int)
   ·rw [if_pos c5] at H
    have c5b0 : decide (x11_1 < (t278.length : Int)) = true := decide_eq_true c5;clear c5
    by_cases c6 : 0 ≤ x11_1
    ·rw [if_pos c6] at H
     have c6b0 : decide (0 ≤ x11_1) = true := decide_eq_true c6;clear c6
     by_cases c7 : x11_1 < (t278.length : Int)
     ·rw [if_pos c7] at H
      have c7b0 : decide (x11_1 < (t278.length : Int)) = true := decide_eq_true c7;clear c7;replace H := Option.bind_eq_some_iff.mp H;obtain ⟨⟨t282, t283⟩, A80, H⟩ := H;replace H : (if t283 = true then (age_told.l0 k1 (mx x3_1 t282) t278 (t278.length : Int) (wrap64 (x11_1 + 1))) else (age_told.l0 k1 (mx x3_1 2147483648) t278 (t278.length : Int) (wrap64 (x11_1 + 1)))) = some r := H;have A8 := Aside0.mk A80;clear A80
      by_cases c9 : t283 = true
      ·subst c9
       (have H1 : (age_told.l0 k1 (mx x3_1 t282) t278 (t278.length : Int) (wrap64 (x11_1 + 1))) = some r := by rw [if_pos rfl] at H; exact H);clear H;have H := H1;clear H1;obtain ⟨ji10, hji10⟩ : ∃ j_ : Int, (mx x3_1 t282) = j_ := ⟨_, rfl⟩;(replace H : (age_told.l0 k1 ji10 t278 (t278.length : Int) (wrap64 (x11_1 + 1))) = some r := by first | (rw [hji10] at H; exact H) | (simp only [hji10] at H ⊢; exact H))
       (try rw [hji10] at A8)
       have hji10_ : (if x3_1 < t282 then t282 else x3_1) = ji10 := hji10;have H' := Aside0.mk H;clear H;have p281 : 0 ≤ (x11_1 : Int) := of_decide_eq_true (by first | (with_reducible assumption) | assumption);have q281 : x11_1 < (t278.length : Int) := of_decide_eq_true (by first | (with_reducible assumption) | assumption);obtain ⟨ad281, e281, hx281_0⟩ := Kd.at_string (Kd.R_reads' HO_9.out).2.2 x11_1 p281 q281
       cases e281
       replace p281 := eq_true p281;replace q281 := eq_true q281;go_wp2_with (first | ((with_reducible refine gate_callee (f:=43) rfl ?_); refine goesL_ (some 17) rfl rfl Tryz.func43 (by kernel_rfl) rfl #[.string (rdOf ByteArray.empty t278 x11_1)] rfl (by (try simp only [List.map_toArray, List.map_cons, List.map_nil]); first | done | rfl | (simp only [List.length_drop, List.length_take]; rfl)) ?_; (with_reducible refine (cc_Seconds.calls k1 (rdOf ByteArray.empty t278 x11_1) t282 true _ A8.out).mono ?_); rintro e w11 ⟨rfl, hb⟩; refine ⟨_, rfl, ?_⟩; have n0_ := Aside0.mk (Kd.R_below (by (with_reducible repeat (first | apply Kd.R_alloc | apply Kd.R_drewN | apply Kd.R_drew)); exact HO_9.out) hb); have n1_ := Aside0.mk (below_step (by repeat (first | (with_reducible first | exact HB.out | apply below_alloc | apply pw_below_drewN | apply below_drew1) | exact HB.out)) hb); clear HO_9; clear HB; have HO_9 := n0_; have HB := n1_; clear n0_ n1_; (try clear hb); (try clear hb2); (try clear hk); (try clear hi)));go_roundg k1
       case measure => have := HK1.out; omega
       case rel => exact ⟨(ji10), (wrap64 (x11_1 + 1)), (by first | rfl | (simp; done) | (simp only [← hji10] <;> (first | rfl | simp)) | (simp [*]; done)), (by first | rfl | (simp; done) | (simp [*]; done)), H', ⟨by have := HK1.out; omega⟩, ⟨by (with_reducible repeat (first | apply Kd.R_alloc | apply Kd.R_drewN | apply Kd.R_drew)); exact HO_9.out⟩, ⟨by repeat (first | (with_reducible first | exact HB.out | apply below_alloc | apply pw_below_drewN | apply below_drew1) | exact HB.out)⟩⟩
      ·replace c9 := Bool.eq_false_iff.mpr c9
       subst c9;(have H1 : (age_told.l0 k1 (mx x3_1 2147483648) t278 (t278.length : Int) (wrap64 (x11_1 + 1))) = some r := by rw [if_neg (show ¬ (false = true) by decide)] at H; exact H);clear H;have H := H1;clear H1;obtain ⟨ji12, hji12⟩ : ∃ j_ : Int, (mx x3_1 2147483648) = j_ := ⟨_, rfl⟩;(replace H : (age_told.l0 k1 ji12 t278 (t278.length : Int) (wrap64 (x11_1 + 1))) = some r := by first | (rw [hji12] at H; exact H) | (simp only [hji12] at H ⊢; exact H))
       (try rw [hji12] at A8)
       have hji12_ : (if x3_1 < 2147483648 then 2147483648 else x3_1) = ji12 := hji12;have H' := Aside0.mk H;clear H;have p281 : 0 ≤ (x11_1 : Int) := of_decide_eq_true (by first | (with_reducible assumption) | assumption);have q281 : x11_1 < (t278.length : Int) := of_decide_eq_true (by first | (with_reducible assumption) | assumption);obtain ⟨ad281, e281, hx281_0⟩ := Kd.at_string (Kd.R_reads' HO_9.out).2.2 x11_1 p281 q281
       cases e281
       replace p281 := eq_true p281;replace q281 := eq_true q281;go_wp2_with (first | ((with_reducible refine gate_callee (f:=43) rfl ?_); refine goesL_ (some 17) rfl rfl Tryz.func43 (by kernel_rfl) rfl #[.string (rdOf ByteArray.empty t278 x11_1)] rfl (by (try simp only [List.map_toArray, List.map_cons, List.map_nil]); first | done | rfl | (simp only [List.length_drop, List.length_take]; rfl)) ?_; (with_reducible refine (cc_Seconds.calls k1 (rdOf ByteArray.empty t278 x11_1) t282 false _ A8.out).mono ?_); rintro e w13 ⟨rfl, hb⟩; refine ⟨_, rfl, ?_⟩; have n0_ := Aside0.mk (Kd.R_below (by (with_reducible repeat (first | apply Kd.R_alloc | apply Kd.R_drewN | apply Kd.R_drew)); exact HO_9.out) hb); have n1_ := Aside0.mk (below_step (by repeat (first | (with_reducible first | exact HB.out | apply below_alloc | apply pw_below_drewN | apply below_drew1) | exact HB.out)) hb); clear HO_9; clear HB; have HO_9 := n0_; have HB := n1_; clear n0_ n1_; (try clear hb); (try clear hb2); (try clear hk); (try clear hi)));go_roundg k1
       case measure => have := HK1.out; omega
       case rel => exact ⟨(ji12), (wrap64 (x11_1 + 1)), (by first | rfl | (simp; done) | (simp only [← hji12] <;> (first | rfl | simp)) | (simp [*]; done)), (by first | rfl | (simp; done) | (simp [*]; done)), H', ⟨by have := HK1.out; omega⟩, ⟨by (with_reducible repeat (first | apply Kd.R_alloc | apply Kd.R_drewN | apply Kd.R_drew)); exact HO_9.out⟩, ⟨by repeat (first | (with_reducible first | exact HB.out | apply below_alloc | apply pw_below_drewN | apply below_drew1) | exact HB.out)⟩⟩
     ·rw [if_neg c7] at H;exact absurd H (by simp)
    ·rw [if_neg c6] at H;exact absurd H (by simp)
   ·rw [if_neg c5] at H;have c5b0 : decide (x11_1 < (t278.length : Int)) = false := decide_eq_false c5;clear c5;obtain rfl := Option.some.inj H;go_wp2;go_ret;exact ⟨by first | rfl | (simp [errW_none, errW_some] <;> rfl) | (simp [*, errW_none, errW_some] <;> rfl), by repeat (first | (with_reducible first | exact HB.out | apply below_alloc | apply pw_below_drewN | apply below_drew1) | exact HB.out)⟩
/-! ### age_Age: function 10 -/
def age_Age.f (k : Nat) (l0 : List (S35)) (a1 : Int) (a2 : Int) (a3 : Int) : Option (Int) := (age_Date.f k l0 a2).bind fun t284 => ((bits_Sub.f a2 t284).bind fun t285 => ((age_told.f k l0).bind fun t286 => ((bits_Sub.f a2 a1).bind fun t287 => ((bits_Add.f t286 t287).bind fun t288 => ((bits_Sub.f a3 a2).bind fun t289 => ((bits_Add.f (mx t285 t288) t289).bind fun t290 => (some t290)))))))
theorem age_Age.mono : ∀ a0 a1 a2 a3 k, LeO (age_Age.f k a0 a1 a2 a3) (age_Age.f (k + 1) a0 a1 a2 a3) := by
 intro a0 a1 a2 a3 k
 unfold age_Age.f
 repeat' first
   | (with_reducible exact age_Date.mono _ _ _)
   | (with_reducible exact age_told.mono _ _)
   | (with_reducible exact LeO.refl _)
   | (with_reducible exact LeO.none _)
   | (with_reducible refine LeO.ite ?_ ?_)
   | (with_reducible refine LeO.bind ?_ (fun _ => ?_))
   | exact age_Date.mono _ _ _
   | exact age_told.mono _ _
   | exact LeO.none _
   | refine LeO.ite ?_ ?_
   | refine LeO.bind ?_ (fun _ => ?_)
set_option maxHeartbeats 2000000 in
set_option maxRecDepth 100000 in
theorem age_Age.calls (k : Nat) (A0 : Option Addr) (c0 : Nat) (l0 : List (S35)) (a1 : Int) (a2 : Int) (a3 : Int) (r : Int) (w : World) (hr0 : Kd.C k35 w A0 l0.length l0) (hc0 : l0.length ≤ c0) (h : age_Age.f k l0 a1 a2 a3 = some r) :
  Calls Tryz.prog 10 #[.slice A0 l0.length c0, .int .i64 a1, .int .i64 a2, .int .i64 a3] w fun e w' => e = .returned (.int .i64 r) ∧ Below w.heap.size w w' := by
 have HR0 := Aside0.mk hr0;have HC0 := Aside0.mk hc0;clear hr0 hc0;have HB := Aside0.mk (Below.refl w.heap.size w);have H : ((age_Date.f k l0 a2).bind fun t284 => ((bits_Sub.f a2 t284).bind fun t285 => ((age_told.f k l0).bind fun t286 => ((bits_Sub.f a2 a1).bind fun t287 => ((bits_Add.f t286 t287).bind fun t288 => ((bits_Sub.f a3 a2).bind fun t289 => ((bits_Add.f (mx t285 t288) t289).bind fun t290 => (some t290)))))))) = some r := h;clear h;replace H := Option.bind_eq_some_iff.mp H;obtain ⟨t284, A50, H⟩ := H;replace H : ((bits_Sub.f a2 t284).bind fun t285 => ((age_told.f k l0).bind fun t286 => ((bits_Sub.f a2 a1).bind fun t287 => ((bits_Add.f t286 t287).bind fun t288 => ((bits_Sub.f a3 a2).bind fun t289 => ((bits_Add.f (mx t285 t288) t289).bind fun t290 => (some t290))))))) = some r := H;have A5 := Aside0.mk A50;clear A50;replace H := Option.bind_eq_some_iff.mp H;obtain ⟨t285, A60, H⟩ := H;replace H : ((age_told.f k l0).bind fun t286 => ((bits_Sub.f a2 a1).bind fun t287 => ((bits_Add.f t286 t287).bind fun t288 => ((bits_Sub.f a3 a2).bind fun t289 => ((bits_Add.f (mx t285 t288) t289).bind fun t290 => (some t290)))))) = some r := H;have A6 := Aside0.mk A60;clear A60;replace H := Option.bind_eq_some_iff.mp H;obtain ⟨t286, A70, H⟩ := H;replace H : ((bits_Sub.f a2 a1).bind fun t287 => ((bits_Add.f t286 t287).bind fun t288 => ((bits_Sub.f a3 a2).bind fun t289 => ((bits_Add.f (mx t285 t288) t289).bind fun t290 => (some t290))))) = some r := H;have A7 := Aside0.mk A70;clear A70;replace H := Option.bind_eq_some_iff.mp H;obtain ⟨t287, A80, H⟩ := H;replace H : ((bits_Add.f t286 t287).bind fun t288 => ((bits_Sub.f a3 a2).bind fun t289 => ((bits_Add.f (mx t285 t288) t289).bind fun t290 => (some t290)))) = some r := H;have A8 := Aside0.mk A80;clear A80;replace H := Option.bind_eq_some_iff.mp H;obtain ⟨t288, A90, H⟩ := H;replace H : ((bits_Sub.f a3 a2).bind fun t289 => ((bits_Add.f (mx t285 t288) t289).bind fun t290 => (some t290))) = some r := H;have A9 := Aside0.mk A90;clear A90;obtain ⟨ji10, hji10⟩ : ∃ j_ : Int, (mx t285 t288) = j_ := ⟨_, rfl⟩;(replace H : ((bits_Sub.f a3 a2).bind fun t289 => ((bits_Add.f (ji10) t289).bind fun t290 => (some t290))) = some r := by first | (rw [hji10] at H; exact H) | (simp only [hji10] at H ⊢; exact H))
 (try rw [hji10] at A5)
 (try rw [hji10] at A6)
 (try rw [hji10] at A7)
 (try rw [hji10] at A8)
 (try rw [hji10] at A9)
 have hji10_ : (if t285 < t288 then t288 else t285) = ji10 := hji10;replace H := Option.bind_eq_some_iff.mp H;obtain ⟨t289, A110, H⟩ := H;replace H : ((bits_Add.f (ji10) t289).bind fun t290 => (some t290)) = some r := H;have A11 := Aside0.mk A110;clear A110;replace H := Option.bind_eq_some_iff.mp H;obtain ⟨t290, A120, H⟩ := H;replace H : (some t290) = some r := H;have A12 := Aside0.mk A120;clear A120;obtain rfl := Option.some.inj H;go_enter Tryz.func10, Tryz.ntmps10;go_wp2_with (first | ((with_reducible refine gate_callee (f:=8) rfl ?_); refine goesL_ (some 13) rfl rfl Tryz.func8 (by kernel_rfl) rfl #[.slice A0 l0.length c0, .int .i64 a2] rfl (by (try simp only [List.map_toArray, List.map_cons, List.map_nil]); first | done | rfl | (simp only [List.length_drop, List.length_take]; rfl)) ?_; (with_reducible refine (age_Date.calls k _ _ l0 a2 t284 _ ?side1 ?side2 A5.out).mono ?_); (case side1 => repeat (first | exact HR0.out | (with_reducible refine Kd.C_alloc ?_ _) | (with_reducible refine Kd.C_drewN ?_ _) | (with_reducible refine Kd.C_drew ?_))); (case side2 => exact HC0.out); rintro e w13 ⟨rfl, hb⟩; refine ⟨_, rfl, ?_⟩; have n0_ := Aside0.mk (below_step (by repeat (first | (with_reducible first | exact HB.out | apply below_alloc | apply pw_below_drewN | apply below_drew1) | exact HB.out)) hb); clear HB; have HB := n0_; clear n0_; (try clear hb); (try clear hb2); (try clear hk); (try clear hi)) | ((with_reducible refine gate_callee (f:=23) rfl ?_); refine goesL_ (some 14) rfl rfl Tryz.func23 (by kernel_rfl) rfl #[.int .i64 a2, .int .i64 t284] rfl (by (try simp only [List.map_toArray, List.map_cons, List.map_nil]); first | done | rfl | (simp only [List.length_drop, List.length_take]; rfl)) ?_; (with_reducible refine (bits_Sub.calls a2 t284 t285 _ A6.out).mono ?_); rintro e w14 ⟨rfl, hb⟩; refine ⟨_, rfl, ?_⟩; have n0_ := Aside0.mk (below_step (by repeat (first | (with_reducible first | exact HB.out | apply below_alloc | apply pw_below_drewN | apply below_drew1) | exact HB.out)) hb); clear HB; have HB := n0_; clear n0_; (try clear hb); (try clear hb2); (try clear hk); (try clear hi)) | ((with_reducible refine gate_callee (f:=25) rfl ?_); refine goesL_ (some 16) rfl rfl Tryz.func25 (by kernel_rfl) rfl #[.slice A0 l0.length c0] rfl (by (try simp only [List.map_toArray, List.map_cons, List.map_nil]); first | done | rfl | (simp only [List.length_drop, List.length_take]; rfl)) ?_; (with_reducible refine (age_told.calls k _ _ l0 t286 _ ?side1 ?side2 A7.out).mono ?_); (case side1 => repeat (first | exact (Kd.C_below HR0.out HB.out) | (with_reducible refine Kd.C_alloc ?_ _) | (with_reducible refine Kd.C_drewN ?_ _) | (with_reducible refine Kd.C_drew ?_))); (case side2 => exact HC0.out); rintro e w15 ⟨rfl, hb⟩; refine ⟨_, rfl, ?_⟩; have n0_ := Aside0.mk (below_step (by repeat (first | (with_reducible first | exact HB.out | apply below_alloc | apply pw_below_drewN | apply below_drew1) | exact HB.out)) hb); clear HB; have HB := n0_; clear n0_; (try clear hb); (try clear hb2); (try clear hk); (try clear hi)) | ((with_reducible refine gate_callee (f:=23) rfl ?_); refine goesL_ (some 19) rfl rfl Tryz.func23 (by kernel_rfl) rfl #[.int .i64 a2, .int .i64 a1] rfl (by (try simp only [List.map_toArray, List.map_cons, List.map_nil]); first | done | rfl | (simp only [List.length_drop, List.length_take]; rfl)) ?_; (with_reducible refine (bits_Sub.calls a2 a1 t287 _ A8.out).mono ?_); rintro e w16 ⟨rfl, hb⟩; refine ⟨_, rfl, ?_⟩; have n0_ := Aside0.mk (below_step (by repeat (first | (with_reducible first | exact HB.out | apply below_alloc | apply pw_below_drewN | apply below_drew1) | exact HB.out)) hb); clear HB; have HB := n0_; clear n0_; (try clear hb); (try clear hb2); (try clear hk); (try clear hi)) | ((with_reducible refine gate_callee (f:=24) rfl ?_); refine goesL_ (some 20) rfl rfl Tryz.func24 (by kernel_rfl) rfl #[.int .i64 t286, .int .i64 t287] rfl (by (try simp only [List.map_toArray, List.map_cons, List.map_nil]); first | done | rfl | (simp only [List.length_drop, List.length_take]; rfl)) ?_; (with_reducible refine (bits_Add.calls t286 t287 t288 _ A9.out).mono ?_); rintro e w17 ⟨rfl, hb⟩; refine ⟨_, rfl, ?_⟩; have n0_ := Aside0.mk (below_step (by repeat (first | (with_reducible first | exact HB.out | apply below_alloc | apply pw_below_drewN | apply below_drew1) | exact HB.out)) hb); clear HB; have HB := n0_; clear n0_; (try clear hb); (try clear hb2); (try clear hk); (try clear hi)) | ((with_reducible refine gate_callee (f:=23) rfl ?_); refine goesL_ (some 25) rfl rfl Tryz.func23 (by kernel_rfl) rfl #[.int .i64 a3, .int .i64 a2] rfl (by (try simp only [List.map_toArray, List.map_cons, List.map_nil]); first | done | rfl | (simp only [List.length_drop, List.length_take]; rfl)) ?_; (with_reducible refine (bits_Sub.calls a3 a2 t289 _ A11.out).mono ?_); rintro e w18 ⟨rfl, hb⟩; refine ⟨_, rfl, ?_⟩; have n0_ := Aside0.mk (below_step (by repeat (first | (with_reducible first | exact HB.out | apply below_alloc | apply pw_below_drewN | apply below_drew1) | exact HB.out)) hb); clear HB; have HB := n0_; clear n0_; (try clear hb); (try clear hb2); (try clear hk); (try clear hi)) | ((with_reducible refine gate_callee (f:=24) rfl ?_); refine goesL_ (some 26) rfl rfl Tryz.func24 (by kernel_rfl) rfl #[.int .i64 ji10, .int .i64 t289] rfl (by (try simp only [List.map_toArray, List.map_cons, List.map_nil]); first | done | (simp only [hji10]; rfl) | rfl | (simp only [List.length_drop, List.length_take]; rfl)) ?_; (with_reducible refine (bits_Add.calls ji10 t289 t290 _ A12.out).mono ?_); rintro e w19 ⟨rfl, hb⟩; refine ⟨_, rfl, ?_⟩; have n0_ := Aside0.mk (below_step (by repeat (first | (with_reducible first | exact HB.out | apply below_alloc | apply pw_below_drewN | apply below_drew1) | exact HB.out)) hb); clear HB; have HB := n0_; clear n0_; (try clear hb); (try clear hb2); (try clear hk); (try clear hi)));go_ret;exact ⟨by first | rfl | (simp [errW_none, errW_some] <;> rfl) | (simp only [← hji10]; first | rfl | (simp [errW_none, errW_some] <;> rfl)) | (simp [*, errW_none, errW_some] <;> rfl), by repeat (first | (with_reducible first | exact HB.out | apply below_alloc | apply pw_below_drewN | apply below_drew1) | exact HB.out)⟩
/-! ### age_Usual: function 16 -/
def age_Usual.f (a0 : Int) : Option (Bool) := if a0 = 200 then (some true) else (if a0 = 203 then (some true) else (if a0 = 204 then (some true) else (if a0 = 300 then (some true) else (if a0 = 301 then (some true) else (if a0 = 308 then (some true) else (if a0 = 404 then (some true) else (if a0 = 405 then (some true) else (if a0 = 410 then (some true) else (if a0 = 414 then (some true) else (if a0 = 501 then (some true) else (some false)))))))))))
set_option maxHeartbeats 2000000 in
set_option maxRecDepth 100000 in
theorem age_Usual.calls (a0 : Int) (r : Bool) (w : World) (h : age_Usual.f a0 = some r) :
  Calls Tryz.prog 16 #[.int .i64 a0] w fun e w' => e = .returned (.bool r) ∧ Drawn0 w w' := by
 have H : (if a0 = 200 then (some true) else (if a0 = 203 then (some true) else (if a0 = 204 then (some true) else (if a0 = 300 then (some true) else (if a0 = 301 then (some true) else (if a0 = 308 then (some true) else (if a0 = 404 then (some true) else (if a0 = 405 then (some true) else (if a0 = 410 then (some true) else (if a0 = 414 then (some true) else (if a0 = 501 then (some true) else (some false)))))))))))) = some r := h;clear h
 by_cases c2 : a0 = 200
 ·rw [if_pos c2] at H;have c2b0 : (a0 == 200) = true := beq_iff_eq.mpr c2;have c2b1 : (a0 != 200) = false := bne_eq_false_iff_eq.mpr c2;clear c2;obtain rfl := Option.some.inj H;go_enter Tryz.func16, Tryz.ntmps16;go_wp2;go_ret;exact ⟨by first | rfl | (simp; done) | (simp [*]; done), by repeat (first | exact Drawn0.refl _ | apply Drawn0.step)⟩
 ·rw [if_neg c2] at H
  have c2b0 : (a0 == 200) = false := beq_eq_false_iff_ne.mpr c2;have c2b1 : (a0 != 200) = true := bne_iff_ne.mpr c2
  by_cases c3 : a0 = 203
  ·rw [if_pos c3] at H;have c3b0 : (a0 == 203) = true := beq_iff_eq.mpr c3;have c3b1 : (a0 != 203) = false := bne_eq_false_iff_eq.mpr c3;clear c3;obtain rfl := Option.some.inj H;go_enter Tryz.func16, Tryz.ntmps16;go_wp2;go_ret;exact ⟨by first | rfl | (simp; done) | (simp [*]; done), by repeat (first | exact Drawn0.refl _ | apply Drawn0.step)⟩
  ·rw [if_neg c3] at H
   have c3b0 : (a0 == 203) = false := beq_eq_false_iff_ne.mpr c3;have c3b1 : (a0 != 203) = true := bne_iff_ne.mpr c3
   by_cases c4 : a0 = 204
   ·rw [if_pos c4] at H;have c4b0 : (a0 == 204) = true := beq_iff_eq.mpr c4;have c4b1 : (a0 != 204) = false := bne_eq_false_iff_eq.mpr c4;clear c4;obtain rfl := Option.some.inj H;go_enter Tryz.func16, Tryz.ntmps16;go_wp2;go_ret;exact ⟨by first | rfl | (simp; done) | (simp [*]; done), by repeat (first | exact Drawn0.refl _ | apply Drawn0.step)⟩
   ·rw [if_neg c4] at H
    have c4b0 : (a0 == 204) = false := beq_eq_false_iff_ne.mpr c4;have c4b1 : (a0 != 204) = true := bne_iff_ne.mpr c4
    by_cases c5 : a0 = 300
    ·rw [if_pos c5] at H;have c5b0 : (a0 == 300) = true := beq_iff_eq.mpr c5;have c5b1 : (a0 != 300) = false := bne_eq_false_iff_eq.mpr c5;clear c5;obtain rfl := Option.some.inj H;go_enter Tryz.func16, Tryz.ntmps16;go_wp2;go_ret;exact ⟨by first | rfl | (simp; done) | (simp [*]; done), by repeat (first | exact Drawn0.refl _ | apply Drawn0.step)⟩
    ·rw [if_neg c5] at H
     have c5b0 : (a0 == 300) = false := beq_eq_false_iff_ne.mpr c5;have c5b1 : (a0 != 300) = true := bne_iff_ne.mpr c5
     by_cases c6 : a0 = 301
     ·rw [if_pos c6] at H;have c6b0 : (a0 == 301) = true := beq_iff_eq.mpr c6;have c6b1 : (a0 != 301) = false := bne_eq_false_iff_eq.mpr c6;clear c6;obtain rfl := Option.some.inj H;go_enter Tryz.func16, Tryz.ntmps16;go_wp2;go_ret;exact ⟨by first | rfl | (simp; done) | (simp [*]; done), by repeat (first | exact Drawn0.refl _ | apply Drawn0.step)⟩
     ·rw [if_neg c6] at H
      have c6b0 : (a0 == 301) = false := beq_eq_false_iff_ne.mpr c6;have c6b1 : (a0 != 301) = true := bne_iff_ne.mpr c6
      by_cases c7 : a0 = 308
      ·rw [if_pos c7] at H;have c7b0 : (a0 == 308) = true := beq_iff_eq.mpr c7;have c7b1 : (a0 != 308) = false := bne_eq_false_iff_eq.mpr c7;clear c7;obtain rfl := Option.some.inj H;go_enter Tryz.func16, Tryz.ntmps16;go_wp2;go_ret;exact ⟨by first | rfl | (simp; done) | (simp [*]; done), by repeat (first | exact Drawn0.refl _ | apply Drawn0.step)⟩
      ·rw [if_neg c7] at H
       have c7b0 : (a0 == 308) = false := beq_eq_false_iff_ne.mpr c7;have c7b1 : (a0 != 308) = true := bne_iff_ne.mpr c7
       by_cases c8 : a0 = 404
       ·rw [if_pos c8] at H;have c8b0 : (a0 == 404) = true := beq_iff_eq.mpr c8;have c8b1 : (a0 != 404) = false := bne_eq_false_iff_eq.mpr c8;clear c8;obtain rfl := Option.some.inj H;go_enter Tryz.func16, Tryz.ntmps16;go_wp2;go_ret;exact ⟨by first | rfl | (simp; done) | (simp [*]; done), by repeat (first | exact Drawn0.refl _ | apply Drawn0.step)⟩
       ·rw [if_neg c8] at H
        have c8b0 : (a0 == 404) = false := beq_eq_false_iff_ne.mpr c8;have c8b1 : (a0 != 404) = true := bne_iff_ne.mpr c8
        by_cases c9 : a0 = 405
        ·rw [if_pos c9] at H;have c9b0 : (a0 == 405) = true := beq_iff_eq.mpr c9;have c9b1 : (a0 != 405) = false := bne_eq_false_iff_eq.mpr c9;clear c9;obtain rfl := Option.some.inj H;go_enter Tryz.func16, Tryz.ntmps16;go_wp2;go_ret;exact ⟨by first | rfl | (simp; done) | (simp [*]; done), by repeat (first | exact Drawn0.refl _ | apply Drawn0.step)⟩
        ·rw [if_neg c9] at H
         have c9b0 : (a0 == 405) = false := beq_eq_false_iff_ne.mpr c9;have c9b1 : (a0 != 405) = true := bne_iff_ne.mpr c9
         by_cases c10 : a0 = 410
         ·rw [if_pos c10] at H;have c10b0 : (a0 == 410) = true := beq_iff_eq.mpr c10;have c10b1 : (a0 != 410) = false := bne_eq_false_iff_eq.mpr c10;clear c10;obtain rfl := Option.some.inj H;go_enter Tryz.func16, Tryz.ntmps16;go_wp2;go_ret;exact ⟨by first | rfl | (simp; done) | (simp [*]; done), by repeat (first | exact Drawn0.refl _ | apply Drawn0.step)⟩
         ·rw [if_neg c10] at H
          have c10b0 : (a0 == 410) = false := beq_eq_false_iff_ne.mpr c10;have c10b1 : (a0 != 410) = true := bne_iff_ne.mpr c10
          by_cases c11 : a0 = 414
          ·rw [if_pos c11] at H;have c11b0 : (a0 == 414) = true := beq_iff_eq.mpr c11;have c11b1 : (a0 != 414) = false := bne_eq_false_iff_eq.mpr c11;clear c11;obtain rfl := Option.some.inj H;go_enter Tryz.func16, Tryz.ntmps16;go_wp2;go_ret;exact ⟨by first | rfl | (simp; done) | (simp [*]; done), by repeat (first | exact Drawn0.refl _ | apply Drawn0.step)⟩
          ·rw [if_neg c11] at H
           have c11b0 : (a0 == 414) = false := beq_eq_false_iff_ne.mpr c11;have c11b1 : (a0 != 414) = true := bne_iff_ne.mpr c11
           by_cases c12 : a0 = 501
           ·rw [if_pos c12] at H;have c12b0 : (a0 == 501) = true := beq_iff_eq.mpr c12;have c12b1 : (a0 != 501) = false := bne_eq_false_iff_eq.mpr c12;clear c12;obtain rfl := Option.some.inj H;go_enter Tryz.func16, Tryz.ntmps16;go_wp2;go_ret;exact ⟨by first | rfl | (simp; done) | (simp [*]; done), by repeat (first | exact Drawn0.refl _ | apply Drawn0.step)⟩
           ·rw [if_neg c12] at H;have c12b0 : (a0 == 501) = false := beq_eq_false_iff_ne.mpr c12;have c12b1 : (a0 != 501) = true := bne_iff_ne.mpr c12;obtain rfl := Option.some.inj H;go_enter Tryz.func16, Tryz.ntmps16;go_wp2;go_ret;exact ⟨by first | rfl | (simp; done) | (simp [*]; done), by repeat (first | exact Drawn0.refl _ | apply Drawn0.step)⟩
/-! ### strings_Trim: function 97 -/
def strings_Trim.f (a0 : ByteArray) (a1 : ByteArray) : Option (ByteArray) := if a0.size ≤ 9223372036854775807 then (if a1.data.toList = [32, 9] then some ⟨(Lib.trimS a0.data.toList a1.data.toList).toArray⟩ else none) else none
theorem strings_Trim.calls (a0 : ByteArray) (a1 : ByteArray) (r : ByteArray) (w : World) (h : strings_Trim.f a0 a1 = some r) :
  Calls Tryz.prog 97 #[.string a0, .string a1] w fun e w' => e = .returned (.string r) ∧ Below w.heap.size w w' := by
 unfold strings_Trim.f at h
 by_cases h1 : a0.size ≤ 9223372036854775807
 ·rw [if_pos h1] at h
  by_cases h2 : a1.data.toList = [32, 9]
  ·rw [if_pos h2] at h;obtain rfl := Option.some.inj h;(have h3 : a1.size = 2 := by have := Lib.size_eq a1; rw [h2] at this; exact this);exact Any.strings_Trim_laid Tryz.laysTrim (by kernel_rfl) a0 a1 w h1 (by omega) (by rw [h2]; exact ascii_of_all (by decide))
  ·rw [if_neg h2] at h; cases h
 ·rw [if_neg h1] at h; cases h
/-! ### head_Trim: function 72 -/
def head_Trim.f (a0 : ByteArray) : Option (ByteArray) := (strings_Trim.f a0 (⟨#[32, 9]⟩ : ByteArray)).bind fun t291 => (some t291)
set_option maxHeartbeats 2000000 in
set_option maxRecDepth 100000 in
theorem head_Trim.calls (a0 : ByteArray) (r : ByteArray) (w : World) (h : head_Trim.f a0 = some r) :
  Calls Tryz.prog 72 #[.string a0] w fun e w' => e = .returned (.string r) ∧ Below w.heap.size w w' := by
 have HB := Aside0.mk (Below.refl w.heap.size w);have H : ((strings_Trim.f a0 (⟨#[32, 9]⟩ : ByteArray)).bind fun t291 => (some t291)) = some r := h;clear h;replace H := Option.bind_eq_some_iff.mp H;obtain ⟨t291, A20, H⟩ := H;replace H : (some t291) = some r := H;have A2 := Aside0.mk A20;clear A20;obtain rfl := Option.some.inj H;go_enter Tryz.func72, Tryz.ntmps72;go_wp2_with (first | ((with_reducible refine gate_callee (f:=97) rfl ?_); refine goesL_ (some 4) rfl rfl Tryz.func97 (by kernel_rfl) rfl #[.string a0, .string (⟨#[32, 9]⟩ : ByteArray)] rfl (by (try simp only [List.map_toArray, List.map_cons, List.map_nil]); first | done | rfl | (simp only [List.length_drop, List.length_take]; rfl)) ?_; (with_reducible refine (strings_Trim.calls a0 (⟨#[32, 9]⟩ : ByteArray) t291 _ A2.out).mono ?_); rintro e w3 ⟨rfl, hb⟩; refine ⟨_, rfl, ?_⟩; have n0_ := Aside0.mk (below_step (by repeat (first | (with_reducible first | exact HB.out | apply below_alloc | apply pw_below_drewN | apply below_drew1) | exact HB.out)) hb); clear HB; have HB := n0_; clear n0_; (try clear hb); (try clear hb2); (try clear hk); (try clear hi)));go_ret;exact ⟨by first | rfl | (simp [errW_none, errW_some] <;> rfl) | (simp [*, errW_none, errW_some] <;> rfl), by repeat (first | (with_reducible first | exact HB.out | apply below_alloc | apply pw_below_drewN | apply below_drew1) | exact HB.out)⟩
end Go.Proofs.YtdikhinmlpihdaaGreatDoor.A
