-- Written by a program of this session's (wip/xprint.py), out of the seat's translation.
import Derived.Test.YtbnlglfddglceaaGreatDoorQ0
import Derived.Test.YtbnlglfddglceaaGreatDoorQ1
import Derived.Test.YtbnlglfddglceaaGreatDoorSh
namespace Go.Proofs.YtbnlglfddglceaaGreatDoor.Q
open Go.RowKit Go.Proofs.YtbnlglfddglceaaGreatDoorW.PrintWords Go.Proofs.YtbnlglfddglceaaGreatDoorW.PrintLast Go.Proofs.YtbnlglfddglceaaGreatDoorW.PrintMore
open Go.Proofs.YtbnlglfddglceaaGreatDoor.Own (Y Z sA sB sC)
open Go.Proofs.YtbnlglfddglceaaGreatDoor.Sh
attribute [local go_sem] max2_int min2_int max_two min_two max_three min_three max_four min_four   -- for this text's walks alone
set_option linter.unusedVariables false
set_option linter.unusedSimpArgs false
/-! ### head_piece: function 58 -/
mutual
def head_piece.l0 : Nat → ByteArray → Bool → Int → Option (Int)
 | 0, _, _, _ => none
 | k + 1, x0, x3, x4 => if x4 < (x0.size : Int) then (if 0 ≤ x4 then (if (bt x0 x4) = 34 then (head_piece.l0 k x0 (!x3) (wrap64 (x4 + 1))) else (if x3 = true then (head_piece.j1 k x0 x3 x4 ((bt x0 x4) == 92)) else (head_piece.j1 k x0 x3 x4 false))) else (none)) else (some (x0.size : Int))
def head_piece.j1 : Nat → ByteArray → Bool → Int → Bool → Option (Int)
 | 0, _, _, _, _ => none
 | k + 1, x0, x3, x4, x18 => if x18 = true then (head_piece.l0 k x0 x3 (wrap64 ((wrap64 (x4 + 1)) + 1))) else (if 0 ≤ x4 then (if x4 < (x0.size : Int) then (if (bt x0 x4) = 44 then (if x3 = true then (head_piece.l0 k x0 x3 (wrap64 (x4 + 1))) else (some x4)) else (head_piece.l0 k x0 x3 (wrap64 (x4 + 1)))) else (none)) else (none))
end
def head_piece.f (k : Nat) (a0 : ByteArray) : Option (Int) := head_piece.l0 k a0 false 0
theorem head_piece.mono_l : ∀ k, (∀ y0 y1 y2, LeO (head_piece.l0 k y0 y1 y2) (head_piece.l0 (k + 1) y0 y1 y2)) ∧ (∀ y0 y1 y2 y3, LeO (head_piece.j1 k y0 y1 y2 y3) (head_piece.j1 (k + 1) y0 y1 y2 y3))
 | 0 => ⟨fun _ _ _ r h => by simp [head_piece.l0] at h, fun _ _ _ _ r h => by simp [head_piece.j1] at h⟩
 | k + 1 => by
  obtain ⟨ih0, ih1⟩ := head_piece.mono_l k;refine ⟨?_, ?_⟩
  ·intro y0 y1 y2
   unfold head_piece.l0
   repeat' first
   | (with_reducible exact ih0 _ _ _)
   | (with_reducible exact ih1 _ _ _ _)
   | (with_reducible exact LeO.refl _)
   | (with_reducible exact LeO.none _)
   | (with_reducible refine LeO.ite ?_ ?_)
   | (with_reducible refine LeO.bind ?_ (fun _ => ?_))
   | exact ih0 _ _ _
   | exact ih1 _ _ _ _
   | exact LeO.none _
   | refine LeO.ite ?_ ?_
   | refine LeO.bind ?_ (fun _ => ?_)
  ·intro y0 y1 y2 y3
   unfold head_piece.j1
   repeat' first
   | (with_reducible exact ih0 _ _ _)
   | (with_reducible exact ih1 _ _ _ _)
   | (with_reducible exact LeO.refl _)
   | (with_reducible exact LeO.none _)
   | (with_reducible refine LeO.ite ?_ ?_)
   | (with_reducible refine LeO.bind ?_ (fun _ => ?_))
   | exact ih0 _ _ _
   | exact ih1 _ _ _ _
   | exact LeO.none _
   | refine LeO.ite ?_ ?_
   | refine LeO.bind ?_ (fun _ => ?_)
theorem head_piece.mono : ∀ a0 k, LeO (head_piece.f k a0) (head_piece.f (k + 1) a0) := by
 intro a0 k;obtain ⟨ih0, ih1⟩ := head_piece.mono_l k
 unfold head_piece.f
 repeat' first
   | (with_reducible exact ih0 _ _ _)
   | (with_reducible exact ih1 _ _ _ _)
   | (with_reducible exact LeO.refl _)
   | (with_reducible exact LeO.none _)
   | (with_reducible refine LeO.ite ?_ ?_)
   | (with_reducible refine LeO.bind ?_ (fun _ => ?_))
   | exact ih0 _ _ _
   | exact ih1 _ _ _ _
   | exact LeO.none _
   | refine LeO.ite ?_ ?_
   | refine LeO.bind ?_ (fun _ => ?_)
set_option maxHeartbeats 2000000 in
set_option maxRecDepth 100000 in
theorem head_piece.calls (k : Nat) (a0 : ByteArray) (r : Int) (w : World) (h : head_piece.f k a0 = some r) :
  Calls Tryz.prog 58 #[.string a0] w fun e w' => e = .returned (.int .i64 r) ∧ Drawn0 w w' := by
 have H : (head_piece.l0 k a0 false 0) = some r := h;clear h;have H' := am H;clear H;go_enter Tryz.func58, Tryz.ntmps58;go_wp2;go_loopg [3, 4] k (fun kq v3 v4 w' => ∃ (x3_1 : Bool) (x4_1 : Int), v3 = .bool x3_1 ∧ v4 = .int .i64 x4_1 ∧ Aside0 (head_piece.l0 kq a0 x3_1 x4_1 = some r) ∧ Aside0 (kq ≤ k) ∧ Drawn0 w w')
 case atStart => exact ⟨(false), (0), (by first | rfl | (simp; done) | (simp [*]; done)), (by first | rfl | (simp; done) | (simp [*]; done)), H', ⟨Nat.le_refl _⟩, by repeat (first | exact Drawn0.refl _ | apply Drawn0.step)⟩
 case round =>
  clear H';obtain ⟨x3_1, x4_1, rfl, rfl, HA, HK1, ⟨m1, rfl⟩⟩ := hrel
  cases gk with
  | zero => exact absurd HA.out (by simp [head_piece.l0])
  | succ k1 =>
   have H := HA.out;clear HA;simp only [head_piece.l0] at H
   by_cases c2 : x4_1 < (a0.size : Int)
   ·rw [if_pos c2] at H
    have c2b0 : decide (x4_1 < (a0.size : Int)) = true := decide_eq_true c2;clear c2
    by_cases c3 : 0 ≤ x4_1
    ·rw [if_pos c3] at H
     have c3b0 : decide (0 ≤ x4_1) = true := decide_eq_true c3;clear c3
     by_cases c5 : (bt a0 x4_1) = 34
     ·rw [if_pos c5] at H
      have c5b0 : ((bt a0 x4_1) == 34) = true := beq_iff_eq.mpr c5;have c5b1 : ((bt a0 x4_1) != 34) = false := bne_eq_false_iff_eq.mpr c5;clear c5;have H' := am H;clear H;have p4 : 0 ≤ (x4_1 : Int) := of_decide_eq_true (by first | (with_reducible assumption) | assumption);have q4 : x4_1 < (a0.size : Int) := of_decide_eq_true (by first | (with_reducible assumption) | assumption);have hx4 := bt_at a0 x4_1;replace p4 := eq_true p4;replace q4 := eq_true q4;go_wp2;go_roundg k1
      case measure => have := HK1.out; omega
      case rel => exact ⟨(!x3_1), (wrap64 (x4_1 + 1)), (by first | rfl | (simp; done) | (simp [*]; done)), (by first | rfl | (simp; done) | (simp [*]; done)), H', ⟨by have := HK1.out; omega⟩, by repeat (first | exact Drawn0.refl _ | apply Drawn0.step)⟩
     ·rw [if_neg c5] at H
      have c5b0 : ((bt a0 x4_1) == 34) = false := beq_eq_false_iff_ne.mpr c5;have c5b1 : ((bt a0 x4_1) != 34) = true := bne_iff_ne.mpr c5;have HC6 := am H;clear H;have p4 : 0 ≤ (x4_1 : Int) := of_decide_eq_true (by first | (with_reducible assumption) | assumption);have q4 : x4_1 < (a0.size : Int) := of_decide_eq_true (by first | (with_reducible assumption) | assumption);have hx4 := bt_at a0 x4_1;replace p4 := eq_true p4;replace q4 := eq_true q4;go_upto_region 7 with (fail);go_cut [18] (fun v18 wc => ∃ (kq : Nat) (x18_5 : Bool), v18 = .bool x18_5 ∧ Aside0 (head_piece.j1 kq a0 x3_1 x4_1 x18_5 = some r) ∧ Aside0 (kq ≤ k1) ∧ Drawn0 w wc)
      case first =>
       have H := HC6.out;clear HC6
       by_cases c7 : x3_1 = true
       ·subst c7
        (have H1 : (head_piece.j1 k1 a0 true x4_1 ((bt a0 x4_1) == 92)) = some r := by rw [if_pos rfl] at H; exact H);clear H;have H := H1;clear H1;have H' := am H;clear H;have p8 : 0 ≤ (x4_1 : Int) := of_decide_eq_true (by first | (with_reducible assumption) | assumption);have q8 : x4_1 < (a0.size : Int) := of_decide_eq_true (by first | (with_reducible assumption) | assumption);have hx8 := bt_at a0 x4_1;replace p8 := eq_true p8;replace q8 := eq_true q8;go_wp2;go_meet
        case rel => exact ⟨_, (((bt a0 x4_1) == 92)), (by first | rfl | (simp; done) | (simp [*]; done)), H', ⟨by have := HK1.out; first | omega | exact Nat.le_refl _⟩, by repeat (first | exact Drawn0.refl _ | apply Drawn0.step)⟩
       ·replace c7 := Bool.eq_false_iff.mpr c7
        subst c7;(have H1 : (head_piece.j1 k1 a0 false x4_1 false) = some r := by rw [if_neg (show ¬ (false = true) by decide)] at H; exact H);clear H;have H := H1;clear H1;have H' := am H;clear H;go_wp2;go_meet
        case rel => exact ⟨_, (false), (by first | rfl | (simp; done) | (simp [*]; done)), H', ⟨by have := HK1.out; first | omega | exact Nat.le_refl _⟩, by repeat (first | exact Drawn0.refl _ | apply Drawn0.step)⟩
      case rest =>
       clear HC6;(try clear q4);(try clear hx4);(try clear q8);(try clear hx8);(try clear q4);(try clear q8);obtain ⟨kq, x18_5, rfl, HA, HJ5, ⟨mc5, rfl⟩⟩ := hcut
       cases kq with
       | zero => exact absurd HA.out (by simp [head_piece.j1])
       | succ kj5 =>
        have H := HA.out;clear HA;simp only [head_piece.j1] at H
        by_cases c9 : x18_5 = true
        ·subst c9
         (have H1 : (head_piece.l0 kj5 a0 x3_1 (wrap64 ((wrap64 (x4_1 + 1)) + 1))) = some r := by rw [if_pos rfl] at H; exact H);clear H;have H := H1;clear H1;have H' := am H;clear H;go_wp2;go_roundg kj5
         case measure => have := HK1.out; have := HJ5.out; omega
         case rel => exact ⟨(x3_1), (wrap64 ((wrap64 (x4_1 + 1)) + 1)), (by first | rfl | (simp; done) | (simp [*]; done)), (by first | rfl | (simp; done) | (simp [*]; done)), H', ⟨by have := HK1.out; have := HJ5.out; omega⟩, by repeat (first | exact Drawn0.refl _ | apply Drawn0.step)⟩
        ·replace c9 := Bool.eq_false_iff.mpr c9
         subst c9;(have H1 : (if 0 ≤ x4_1 then (if x4_1 < (a0.size : Int) then (if (bt a0 x4_1) = 44 then (if x3_1 = true then (head_piece.l0 kj5 a0 x3_1 (wrap64 (x4_1 + 1))) else (some x4_1)) else (head_piece.l0 kj5 a0 x3_1 (wrap64 (x4_1 + 1)))) else (none)) else (none)) = some r := by rw [if_neg (show ¬ (false = true) by decide)] at H; exact H);clear H;have H := H1;clear H1
         by_cases c10 : 0 ≤ x4_1
         ·rw [if_pos c10] at H
          have c10b0 : decide (0 ≤ x4_1) = true := decide_eq_true c10;clear c10
          by_cases c11 : x4_1 < (a0.size : Int)
          ·rw [if_pos c11] at H
           have c11b0 : decide (x4_1 < (a0.size : Int)) = true := decide_eq_true c11;clear c11
           by_cases c13 : (bt a0 x4_1) = 44
           ·rw [if_pos c13] at H
            have c13b0 : ((bt a0 x4_1) == 44) = true := beq_iff_eq.mpr c13;have c13b1 : ((bt a0 x4_1) != 44) = false := bne_eq_false_iff_eq.mpr c13;clear c13
            by_cases c14 : x3_1 = true
            ·subst c14
             (have H1 : (head_piece.l0 kj5 a0 true (wrap64 (x4_1 + 1))) = some r := by rw [if_pos rfl] at H; exact H);clear H;have H := H1;clear H1;have H' := am H;clear H;have p12 : 0 ≤ (x4_1 : Int) := of_decide_eq_true (by first | (with_reducible assumption) | assumption);have q12 : x4_1 < (a0.size : Int) := of_decide_eq_true (by first | (with_reducible assumption) | assumption);have hx12 := bt_at a0 x4_1;replace p12 := eq_true p12;replace q12 := eq_true q12;go_wp2;go_roundg kj5
             case measure => have := HK1.out; have := HJ5.out; omega
             case rel => exact ⟨(true), (wrap64 (x4_1 + 1)), (by first | rfl | (simp; done) | (simp [*]; done)), (by first | rfl | (simp; done) | (simp [*]; done)), H', ⟨by have := HK1.out; have := HJ5.out; omega⟩, by repeat (first | exact Drawn0.refl _ | apply Drawn0.step)⟩
            ·replace c14 := Bool.eq_false_iff.mpr c14;subst c14;(have H1 : (some x4_1) = some r := by rw [if_neg (show ¬ (false = true) by decide)] at H; exact H);clear H;have H := H1;clear H1;obtain rfl := Option.some.inj H;have p12 : 0 ≤ (x4_1 : Int) := of_decide_eq_true (by first | (with_reducible assumption) | assumption);have q12 : x4_1 < (a0.size : Int) := of_decide_eq_true (by first | (with_reducible assumption) | assumption);have hx12 := bt_at a0 x4_1;replace p12 := eq_true p12;replace q12 := eq_true q12;go_wp2;go_ret;exact ⟨by first | rfl | (simp; done) | (simp [*]; done), by repeat (first | exact Drawn0.refl _ | apply Drawn0.step)⟩
           ·rw [if_neg c13] at H
            have c13b0 : ((bt a0 x4_1) == 44) = false := beq_eq_false_iff_ne.mpr c13;have c13b1 : ((bt a0 x4_1) != 44) = true := bne_iff_ne.mpr c13;have H' := am H;clear H;have p12 : 0 ≤ (x4_1 : Int) := of_decide_eq_true (by first | (with_reducible assumption) | assumption);have q12 : x4_1 < (a0.size : Int) := of_decide_eq_true (by first | (with_reducible assumption) | assumption);have hx12 := bt_at a0 x4_1;replace p12 := eq_true p12;replace q12 := eq_true q12;go_wp2;go_roundg kj5
            case measure => have := HK1.out; have := HJ5.out; omega
            case rel => exact ⟨(x3_1), (wrap64 (x4_1 + 1)), (by first | rfl | (simp; done) | (simp [*]; done)), (by first | rfl | (simp; done) | (simp [*]; done)), H', ⟨by have := HK1.out; have := HJ5.out; omega⟩, by repeat (first | exact Drawn0.refl _ | apply Drawn0.step)⟩
          ·rw [if_neg c11] at H;exact absurd H (by simp)
         ·rw [if_neg c10] at H;exact absurd H (by simp)
    ·rw [if_neg c3] at H;exact absurd H (by simp)
   ·rw [if_neg c2] at H;have c2b0 : decide (x4_1 < (a0.size : Int)) = false := decide_eq_false c2;clear c2;obtain rfl := Option.some.inj H;go_wp2;go_ret;exact ⟨by first | rfl | (simp; done) | (simp [*]; done), by repeat (first | exact Drawn0.refl _ | apply Drawn0.step)⟩
/-! ### head_Split: function 43 -/
mutual
def head_Split.l0 : Nat → List ByteArray → List ByteArray → Int → Int → Option (List ByteArray)
 | 0, _, _, _, _ => none
 | k + 1, x3, x8, x9, x10 => if x10 < x9 then (if 0 ≤ x10 then (if x10 < (x8.length : Int) then (head_Split.l1 k x3 (rdOf ByteArray.empty x8 x10) x8 x9 x10) else (none)) else (none)) else (some x3)
def head_Split.l1 : Nat → List ByteArray → ByteArray → List ByteArray → Int → Int → Option (List ByteArray)
 | 0, _, _, _, _, _ => none
 | k + 1, x3, x5, x8, x9, x10 => if x5.toList = ([] : List UInt8) then (head_Split.l0 k x3 x8 x9 (wrap64 (x10 + 1))) else ((head_piece.f k x5).bind fun t135 => (if 0 ≤ t135 then (if t135 ≤ (x5.size : Int) then ((head_Trim.f (x5.extract 0 (t135 : Int).toNat)).bind fun t136 => (if t136.toList = ([] : List UInt8) then (if 0 ≤ (mn (wrap64 (t135 + 1)) (x5.size : Int)) then (if (mn (wrap64 (t135 + 1)) (x5.size : Int)) ≤ (x5.size : Int) then (head_Split.l1 k x3 (x5.extract ((mn (wrap64 (t135 + 1)) (x5.size : Int)) : Int).toNat x5.size) x8 x9 x10) else (none)) else (none)) else (if x3.length < 8796093022208 then (if 0 ≤ (mn (wrap64 (t135 + 1)) (x5.size : Int)) then (if (mn (wrap64 (t135 + 1)) (x5.size : Int)) ≤ (x5.size : Int) then (head_Split.l1 k (x3 ++ [t136]) (x5.extract ((mn (wrap64 (t135 + 1)) (x5.size : Int)) : Int).toNat x5.size) x8 x9 x10) else (none)) else (none)) else (none)))) else (none)) else (none)))
end
def head_Split.f (k : Nat) (l0 : List ByteArray) : Option (List ByteArray) := head_Split.l0 k ([] : List ByteArray) l0 (l0.length : Int) 0
theorem head_Split.mono_l : ∀ k, (∀ y0 y1 y2 y3, LeO (head_Split.l0 k y0 y1 y2 y3) (head_Split.l0 (k + 1) y0 y1 y2 y3)) ∧ (∀ y0 y1 y2 y3 y4, LeO (head_Split.l1 k y0 y1 y2 y3 y4) (head_Split.l1 (k + 1) y0 y1 y2 y3 y4))
 | 0 => ⟨fun _ _ _ _ r h => by simp [head_Split.l0] at h, fun _ _ _ _ _ r h => by simp [head_Split.l1] at h⟩
 | k + 1 => by
  obtain ⟨ih0, ih1⟩ := head_Split.mono_l k;refine ⟨?_, ?_⟩
  ·intro y0 y1 y2 y3
   unfold head_Split.l0
   repeat' first
   | (with_reducible exact ih0 _ _ _ _)
   | (with_reducible exact ih1 _ _ _ _ _)
   | (with_reducible exact head_piece.mono _ _)
   | (with_reducible exact LeO.refl _)
   | (with_reducible exact LeO.none _)
   | (with_reducible refine LeO.ite ?_ ?_)
   | (with_reducible refine LeO.bind ?_ (fun _ => ?_))
   | exact ih0 _ _ _ _
   | exact ih1 _ _ _ _ _
   | exact head_piece.mono _ _
   | exact LeO.none _
   | refine LeO.ite ?_ ?_
   | refine LeO.bind ?_ (fun _ => ?_)
  ·intro y0 y1 y2 y3 y4
   unfold head_Split.l1
   repeat' first
   | (with_reducible exact ih0 _ _ _ _)
   | (with_reducible exact ih1 _ _ _ _ _)
   | (with_reducible exact head_piece.mono _ _)
   | (with_reducible exact LeO.refl _)
   | (with_reducible exact LeO.none _)
   | (with_reducible refine LeO.ite ?_ ?_)
   | (with_reducible refine LeO.bind ?_ (fun _ => ?_))
   | exact ih0 _ _ _ _
   | exact ih1 _ _ _ _ _
   | exact head_piece.mono _ _
   | exact LeO.none _
   | refine LeO.ite ?_ ?_
   | refine LeO.bind ?_ (fun _ => ?_)
theorem head_Split.mono : ∀ a0 k, LeO (head_Split.f k a0) (head_Split.f (k + 1) a0) := by
 intro a0 k;obtain ⟨ih0, ih1⟩ := head_Split.mono_l k
 unfold head_Split.f
 repeat' first
   | (with_reducible exact ih0 _ _ _ _)
   | (with_reducible exact ih1 _ _ _ _ _)
   | (with_reducible exact head_piece.mono _ _)
   | (with_reducible exact LeO.refl _)
   | (with_reducible exact LeO.none _)
   | (with_reducible refine LeO.ite ?_ ?_)
   | (with_reducible refine LeO.bind ?_ (fun _ => ?_))
   | exact ih0 _ _ _ _
   | exact ih1 _ _ _ _ _
   | exact head_piece.mono _ _
   | exact LeO.none _
   | refine LeO.ite ?_ ?_
   | refine LeO.bind ?_ (fun _ => ?_)
set_option maxHeartbeats 2000000 in
set_option maxRecDepth 100000 in
theorem head_Split.calls (k : Nat) (A0 : Option Addr) (c0 : Nat) (l0 : List ByteArray) (r : List ByteArray) (w : World) (hr0 : Kd.C Kd.string w A0 l0.length l0) (hc0 : l0.length ≤ c0) (h : head_Split.f k l0 = some r) :
  Calls Tryz.prog 43 #[.slice A0 l0.length c0] w fun e w' => ∃ v0_ : Value, e = .returned (v0_) ∧ Kd.R Kd.string 9 w' w.heap.size (fun _ => True) v0_ r ∧ Below w.heap.size w w' := by
 have HR0 := am hr0;have HC0 := am hc0;clear hr0 hc0;have HB := am (Below.refl w.heap.size w);have H : (head_Split.l0 k ([] : List ByteArray) l0 (l0.length : Int) 0) = some r := h;clear h;have H' := am H;clear H;go_enter Tryz.func43, Tryz.ntmps43;go_wp2;go_loopg [3, 10] k (fun kq v3 v10 w' => ∃ (x3_1 : List ByteArray) (x10_1 : Int), v10 = .int .i64 x10_1 ∧ Aside0 (head_Split.l0 kq x3_1 l0 (l0.length : Int) x10_1 = some r) ∧ Aside0 (kq ≤ k) ∧ Aside0 (Kd.R Kd.string 9 w' w.heap.size (fun _ => True) v3 x3_1) ∧ Aside0 (Below w.heap.size w w'))
 case atStart => exact ⟨(([] : List ByteArray)), (0), (by first | rfl | (simp; done) | (simp [*]; done)), H', ⟨Nat.le_refl _⟩, ⟨by first | exact Kd.R_nil _ _ _ _ _ | exact Kd.N_nil _ _ _ _ _ | exact Kd.V_nil _ _ _ _ _ | exact Kd.Q_nil _ _ _ _ _ | exact Kd.S_nil _ _ _ _ _⟩, ⟨hA HB.out⟩⟩
 case round =>
  clear H';obtain ⟨x3_1, x10_1, rfl, HA, HK1, HO_3, HB⟩ := hrel
  cases gk with
  | zero => exact absurd HA.out (by simp [head_Split.l0])
  | succ k1 =>
   have H := HA.out;clear HA;simp only [head_Split.l0] at H
   by_cases c2 : x10_1 < (l0.length : Int)
   ·rw [if_pos c2] at H
    have c2b0 : decide (x10_1 < (l0.length : Int)) = true := decide_eq_true c2;clear c2
    by_cases c3 : 0 ≤ x10_1
    ·rw [if_pos c3] at H
     have c3b0 : decide (0 ≤ x10_1) = true := decide_eq_true c3;clear c3
     by_cases c4 : x10_1 < (l0.length : Int)
     ·rw [if_pos c4] at H
      have c4b0 : decide (x10_1 < (l0.length : Int)) = true := decide_eq_true c4;clear c4;have H' := am H;clear H;have p134 : 0 ≤ (x10_1 : Int) := of_decide_eq_true (by first | (with_reducible assumption) | assumption);have q134 : x10_1 < (l0.length : Int) := of_decide_eq_true (by first | (with_reducible assumption) | assumption);obtain ⟨ad134, e134, hx134_0⟩ := Kd.at_string HR0.out x10_1 p134 q134
      cases e134
      replace hx134_0 := (HB.out.cell (World.block_lt_of_cell? w _ hx134_0)).trans hx134_0;replace p134 := eq_true p134;replace q134 := eq_true q134;go_wp2;go_loopg [3, 5] k1 (fun kq v3 v5 w' => ∃ (x3_2 : List ByteArray) (x5_2 : ByteArray), v5 = .string x5_2 ∧ Aside0 (head_Split.l1 kq x3_2 x5_2 l0 (l0.length : Int) x10_1 = some r) ∧ Aside0 (kq ≤ k1) ∧ Aside0 (Kd.R Kd.string 9 w' w.heap.size (fun _ => True) v3 x3_2) ∧ Aside0 (Below w.heap.size w w'))
      case atStart => exact ⟨(x3_1), (rdOf ByteArray.empty l0 x10_1), (by first | rfl | (simp; done) | (simp [*]; done)), H', ⟨Nat.le_refl _⟩, ⟨rA HO_3.out⟩, ⟨hA HB.out⟩⟩
      case round =>
       clear H';(try clear q1);(try clear hx1);(try clear q134);obtain ⟨x3_2, x5_2, rfl, HA, HK2, HO_3, HB⟩ := hrel
       cases gk with
       | zero => exact absurd HA.out (by simp [head_Split.l1])
       | succ k2 =>
        have H := HA.out;clear HA;simp only [head_Split.l1] at H
        by_cases c5 : x5_2.toList = ([] : List UInt8)
        ·rw [if_pos c5] at H
         have c5b0 : (x5_2.toList == ([] : List UInt8)) = true := beq_iff_eq.mpr c5;have c5b1 : (x5_2.toList != ([] : List UInt8)) = false := bne_eq_false_iff_eq.mpr c5;clear c5;have H' := am H;clear H;go_wp2;go_roundg k2
         case measure => have := HK1.out; have := HK2.out; omega
         case rel => exact ⟨(x3_2), (wrap64 (x10_1 + 1)), (by first | rfl | (simp; done) | (simp [*]; done)), H', ⟨by have := HK1.out; have := HK2.out; omega⟩, ⟨rA HO_3.out⟩, ⟨hA HB.out⟩⟩
        ·rw [if_neg c5] at H
         have c5b0 : (x5_2.toList == ([] : List UInt8)) = false := beq_eq_false_iff_ne.mpr c5;have c5b1 : (x5_2.toList != ([] : List UInt8)) = true := bne_iff_ne.mpr c5;replace H := Option.bind_eq_some_iff.mp H;obtain ⟨t135, A60, H⟩ := H;replace H : (if 0 ≤ t135 then (if t135 ≤ (x5_2.size : Int) then ((head_Trim.f (x5_2.extract 0 (t135 : Int).toNat)).bind fun t136 => (if t136.toList = ([] : List UInt8) then (if 0 ≤ (mn (wrap64 (t135 + 1)) (x5_2.size : Int)) then (if (mn (wrap64 (t135 + 1)) (x5_2.size : Int)) ≤ (x5_2.size : Int) then (head_Split.l1 k2 x3_2 (x5_2.extract ((mn (wrap64 (t135 + 1)) (x5_2.size : Int)) : Int).toNat x5_2.size) l0 (l0.length : Int) x10_1) else (none)) else (none)) else (if x3_2.length < 8796093022208 then (if 0 ≤ (mn (wrap64 (t135 + 1)) (x5_2.size : Int)) then (if (mn (wrap64 (t135 + 1)) (x5_2.size : Int)) ≤ (x5_2.size : Int) then (head_Split.l1 k2 (x3_2 ++ [t136]) (x5_2.extract ((mn (wrap64 (t135 + 1)) (x5_2.size : Int)) : Int).toNat x5_2.size) l0 (l0.length : Int) x10_1) else (none)) else (none)) else (none)))) else (none)) else (none)) = some r := H;have A6 := am A60;clear A60
         by_cases c7 : 0 ≤ t135
         ·rw [if_pos c7] at H
          have c7b0 := eq_true c7;have c7b1 : decide (0 ≤ t135) = true := decide_eq_true c7;clear c7
          by_cases c8 : t135 ≤ (x5_2.size : Int)
          ·rw [if_pos c8] at H
           have c8b0 := eq_true c8;have c8b1 : decide (t135 ≤ (x5_2.size : Int)) = true := decide_eq_true c8;clear c8;replace H := Option.bind_eq_some_iff.mp H;obtain ⟨t136, A90, H⟩ := H;replace H : (if t136.toList = ([] : List UInt8) then (if 0 ≤ (mn (wrap64 (t135 + 1)) (x5_2.size : Int)) then (if (mn (wrap64 (t135 + 1)) (x5_2.size : Int)) ≤ (x5_2.size : Int) then (head_Split.l1 k2 x3_2 (x5_2.extract ((mn (wrap64 (t135 + 1)) (x5_2.size : Int)) : Int).toNat x5_2.size) l0 (l0.length : Int) x10_1) else (none)) else (none)) else (if x3_2.length < 8796093022208 then (if 0 ≤ (mn (wrap64 (t135 + 1)) (x5_2.size : Int)) then (if (mn (wrap64 (t135 + 1)) (x5_2.size : Int)) ≤ (x5_2.size : Int) then (head_Split.l1 k2 (x3_2 ++ [t136]) (x5_2.extract ((mn (wrap64 (t135 + 1)) (x5_2.size : Int)) : Int).toNat x5_2.size) l0 (l0.length : Int) x10_1) else (none)) else (none)) else (none))) = some r := H;have A9 := am A90;clear A90
           by_cases c10 : t136.toList = ([] : List UInt8)
           ·rw [if_pos c10] at H
            have c10b0 : (t136.toList == ([] : List UInt8)) = true := beq_iff_eq.mpr c10;have c10b1 : (t136.toList != ([] : List UInt8)) = false := bne_eq_false_iff_eq.mpr c10;clear c10;obtain ⟨ji11, hji11⟩ : ∃ j_ : Int, (mn (wrap64 (t135 + 1)) (x5_2.size : Int)) = j_ := ⟨_, rfl⟩;(replace H : (if 0 ≤ (ji11) then (if (ji11) ≤ (x5_2.size : Int) then (head_Split.l1 k2 x3_2 (x5_2.extract ((ji11) : Int).toNat x5_2.size) l0 (l0.length : Int) x10_1) else (none)) else (none)) = some r := by first | (rw [hji11] at H; exact H) | (simp only [hji11] at H ⊢; exact H))
            (try rw [hji11] at A6)
            (try rw [hji11] at A9)
            have hji11_ : (if (x5_2.size : Int) < (wrap64 (t135 + 1)) then (x5_2.size : Int) else (wrap64 (t135 + 1))) = ji11 := hji11
            by_cases c12 : 0 ≤ (ji11)
            ·rw [if_pos c12] at H
             have c12b0 := eq_true c12;have c12b1 : decide (0 ≤ (ji11)) = true := decide_eq_true c12;clear c12
             by_cases c13 : (ji11) ≤ (x5_2.size : Int)
             ·rw [if_pos c13] at H
              have c13b0 := eq_true c13;have c13b1 : decide ((ji11) ≤ (x5_2.size : Int)) = true := decide_eq_true c13;clear c13;have H' := am H;clear H;go_wp2_with (first | ((with_reducible refine gate_callee (f:=58) rfl ?_); refine goesL_ (some 17) rfl rfl Tryz.func58 (by kernel_rfl) rfl #[.string x5_2] rfl (by (try simp only [List.map_toArray, List.map_cons, List.map_nil]); first | done | rfl | (simp only [List.length_drop, List.length_take]; rfl)) ?_; (with_reducible refine (head_piece.calls k2 x5_2 t135 _ A6.out).mono ?_); rintro e w' ⟨rfl, ⟨nd, rfl⟩⟩; refine ⟨_, rfl, ?_⟩) | ((with_reducible refine gate_callee (f:=53) rfl ?_); refine goesL_ (some 21) rfl rfl Tryz.func53 (by kernel_rfl) rfl #[.string (x5_2.extract 0 (t135 : Int).toNat)] rfl (by (try simp only [List.map_toArray, List.map_cons, List.map_nil]); first | done | rfl | (simp only [List.length_drop, List.length_take]; rfl)) ?_; (with_reducible refine (head_Trim.calls (x5_2.extract 0 (t135 : Int).toNat) t136 _ A9.out).mono ?_); rintro e w14 ⟨rfl, hb⟩; refine ⟨_, rfl, ?_⟩; have n0_ := am (Kd.R_below (rA HO_3.out) hb); have n1_ := am (below_step (hA HB.out) hb); clear HO_3; clear HB; have HO_3 := n0_; have HB := n1_; clear n0_ n1_; (try clear hb); (try clear hb2); (try clear hk); (try clear hi)));go_roundg k2
              case measure => have := HK1.out; have := HK2.out; omega
              case rel => exact ⟨(x3_2), (x5_2.extract ((ji11) : Int).toNat x5_2.size), (by first | rfl | (simp; done) | (simp only [← hji11] <;> (first | rfl | simp)) | (simp [*]; done)), H', ⟨by have := HK1.out; have := HK2.out; omega⟩, ⟨rA HO_3.out⟩, ⟨hA HB.out⟩⟩
             ·rw [if_neg c13] at H;exact absurd H (by simp)
            ·rw [if_neg c12] at H;exact absurd H (by simp)
           ·rw [if_neg c10] at H
            have c10b0 : (t136.toList == ([] : List UInt8)) = false := beq_eq_false_iff_ne.mpr c10;have c10b1 : (t136.toList != ([] : List UInt8)) = true := bne_iff_ne.mpr c10
            by_cases c15 : x3_2.length < 8796093022208
            ·rw [if_pos c15] at H
             have LMc15 := am c15;clear c15;obtain ⟨y137, hy137⟩ : ∃ y_ : List ByteArray, y_ = (x3_2 ++ [t136]) := ⟨_, rfl⟩;(replace H : (if 0 ≤ (mn (wrap64 (t135 + 1)) (x5_2.size : Int)) then (if (mn (wrap64 (t135 + 1)) (x5_2.size : Int)) ≤ (x5_2.size : Int) then (head_Split.l1 k2 y137 (x5_2.extract ((mn (wrap64 (t135 + 1)) (x5_2.size : Int)) : Int).toNat x5_2.size) l0 (l0.length : Int) x10_1) else (none)) else (none)) = some r := by first | (rw [hy137]; with_reducible exact H) | (have H2_ := (Option.bind_some _ _).symm.trans H; rw [hy137]; with_reducible exact H2_) | (have H2_ := (Option.bind_some _ _).symm.trans H; with_reducible exact H2_) | with_reducible exact H | (rw [hy137]; exact H) | exact H);have Ny137 := am hy137;clear hy137;obtain ⟨ji16, hji16⟩ : ∃ j_ : Int, (mn (wrap64 (t135 + 1)) (x5_2.size : Int)) = j_ := ⟨_, rfl⟩;(replace H : (if 0 ≤ (ji16) then (if (ji16) ≤ (x5_2.size : Int) then (head_Split.l1 k2 y137 (x5_2.extract ((ji16) : Int).toNat x5_2.size) l0 (l0.length : Int) x10_1) else (none)) else (none)) = some r := by first | (rw [hji16] at H; exact H) | (simp only [hji16] at H ⊢; exact H))
             (try rw [hji16] at A6)
             (try rw [hji16] at A9)
             have hji16_ : (if (x5_2.size : Int) < (wrap64 (t135 + 1)) then (x5_2.size : Int) else (wrap64 (t135 + 1))) = ji16 := hji16
             by_cases c17 : 0 ≤ (ji16)
             ·rw [if_pos c17] at H
              have c17b0 := eq_true c17;have c17b1 : decide (0 ≤ (ji16)) = true := decide_eq_true c17;clear c17
              by_cases c18 : (ji16) ≤ (x5_2.size : Int)
              ·rw [if_pos c18] at H
               have c18b0 := eq_true c18;have c18b1 : decide ((ji16) ≤ (x5_2.size : Int)) = true := decide_eq_true c18;clear c18;have H' := am H;clear H;go_wp2_with (first | ((with_reducible refine gate_callee (f:=58) rfl ?_); refine goesL_ (some 17) rfl rfl Tryz.func58 (by kernel_rfl) rfl #[.string x5_2] rfl (by (try simp only [List.map_toArray, List.map_cons, List.map_nil]); first | done | rfl | (simp only [List.length_drop, List.length_take]; rfl)) ?_; (with_reducible refine (head_piece.calls k2 x5_2 t135 _ A6.out).mono ?_); rintro e w' ⟨rfl, ⟨nd, rfl⟩⟩; refine ⟨_, rfl, ?_⟩) | ((with_reducible refine gate_callee (f:=53) rfl ?_); refine goesL_ (some 21) rfl rfl Tryz.func53 (by kernel_rfl) rfl #[.string (x5_2.extract 0 (t135 : Int).toNat)] rfl (by (try simp only [List.map_toArray, List.map_cons, List.map_nil]); first | done | rfl | (simp only [List.length_drop, List.length_take]; rfl)) ?_; (with_reducible refine (head_Trim.calls (x5_2.extract 0 (t135 : Int).toNat) t136 _ A9.out).mono ?_); rintro e w19 ⟨rfl, hb⟩; refine ⟨_, rfl, ?_⟩; have n0_ := am (Kd.R_below (rA HO_3.out) hb); have n1_ := am (below_step (hA HB.out) hb); clear HO_3; clear HB; have HO_3 := n0_; have HB := n1_; clear n0_ n1_; (try clear hb); (try clear hb2); (try clear hk); (try clear hi)) | ((with_reducible refine gate_builtin (b:=.append) (xs := #[.tmp 24, .tmp 26]) rfl ?_); at_builtin; refine Kd.R_append Kd.string (w0 := w) w.heap.size rfl (.tmp 24) (.tmp 26) 35 9 (.string ⟨#[]⟩) 16 rfl Tryz.underlying35 info9 rfl (by decide) (by omega) u3 x3_2 t136 [.string t136] (fun _ => True) (fun _ => False) rfl rfl ?aP (fun _ hk => hk.elim) ?aF ?aO ?aB ?aS ?aL ?_; (case aP => exact rfl); (case aB => exact (hA HB.out)); (case aF => exact (fun _ _ => trivial)); (case aO => exact (rA HO_3.out)); (case aS => exact (below_size (hA HB.out))); (case aL => have := LMc15.out; omega); intro v138 w20 ho hb hg hat; rw [← Ny137.out] at ho; have n0_ := am (hb); have n1_ := am (ho); clear HB; clear HO_3; have HB := n0_; have HO139 := n1_; clear n0_ n1_; clear ho hb hg hat));go_roundg k2
               case measure => have := HK1.out; have := HK2.out; omega
               case rel => exact ⟨(y137), (x5_2.extract ((ji16) : Int).toNat x5_2.size), (by first | rfl | (simp; done) | (simp only [← hji16] <;> (first | rfl | simp)) | (simp [*]; done)), H', ⟨by have := HK1.out; have := HK2.out; omega⟩, ⟨rA HO139.out⟩, ⟨hA HB.out⟩⟩
              ·rw [if_neg c18] at H;exact absurd H (by simp)
             ·rw [if_neg c17] at H;exact absurd H (by simp)
            ·rw [if_neg c15] at H;exact absurd H (by simp)
          ·rw [if_neg c8] at H;exact absurd H (by simp)
         ·rw [if_neg c7] at H;exact absurd H (by simp)
     ·rw [if_neg c4] at H;exact absurd H (by simp)
    ·rw [if_neg c3] at H;exact absurd H (by simp)
   ·rw [if_neg c2] at H;have c2b0 : decide (x10_1 < (l0.length : Int)) = false := decide_eq_false c2;clear c2;obtain rfl := Option.some.inj H;go_wp2;go_ret;exact ⟨_, by first | rfl | (simp [errW_none, errW_some] <;> rfl) | (simp [*, errW_none, errW_some] <;> rfl), by (with_reducible repeat (first | apply Kd.R_alloc | apply Kd.R_drewN | apply Kd.R_drew)); exact HO_3.out, by repeat (first | (with_reducible first | exact HB.out | apply below_alloc | apply pw_below_drewN | apply below_drew1) | exact HB.out)⟩
/-! ### strings_Cut: function 55 -/
set_option maxHeartbeats 8000000 in
set_option maxRecDepth 100000 in
theorem strings_Cut.idx (s sep : ByteArray) (c : UInt8) (hsep : sep = ⟨#[c]⟩) (hs : s.size ≤ 9223372036854775807) (w : World) :
  Calls Tryz.prog 92 #[.string s, .string sep] w fun e w' => e = .returned (.int .i64 (Lib.indexByte s.data.toList c)) ∧ w' = w := by
 (have hz : sep.size = 1 := by rw [hsep]; rfl);(have h0 : sep[0] = c := by subst hsep; rfl);(have hib := fun w => Tryz.stringslite_IndexByte s (c.toNat : Int) w);(have hcc : (c.toNat : Int).toNat.toUInt8 = c := by rw [Int.toNat_natCast]; simp);rw [hcc] at hib
 have e2 : (sep.toList == s.toList) = true → Lib.indexByte s.data.toList c = 0 := fun h => by
  have := beq_iff_eq.1 h;rw [Lib.toList_data, Lib.toList_data, hsep] at this;rw [← this]; simp [Lib.indexByte]
 have E2 := am e2;clear e2;go_enter Tryz.func92, Tryz.ntmps92;go_wp2_with (go_at_call 52; (try rw [h0]); refine (hib _).mono ?_; rintro e w' ⟨rfl, rfl⟩)
 ·go_ret;exact ⟨by rw [E2.out (by first | assumption | (simp [*]))]; simp [*], rfl⟩
 ·go_ret;exact ⟨rfl, rfl⟩
theorem strings_Cut.range : ∀ (s : List UInt8) (c : UInt8), -1 ≤ Lib.indexByte s c ∧ Lib.indexByte s c < (s.length : Int)
 | [], c => by unfold Lib.indexByte; simp
 | x :: t, c => by
  have ih := strings_Cut.range t c
  unfold Lib.indexByte
  rw [List.length_cons]
  split
  ·omega
  ·split
   ·omega
   ·omega
def strings_Cut.val (s : ByteArray) (c : UInt8) : ByteArray × ByteArray × Bool :=
 if Lib.indexByte s.data.toList c ≥ 0 then (s.extract 0 (Lib.indexByte s.data.toList c).toNat, s.extract (Lib.indexByte s.data.toList c + 1).toNat s.size, true) else (s, ⟨#[]⟩, false)
set_option maxHeartbeats 800000 in
set_option maxRecDepth 100000 in
theorem strings_Cut.miss (s sep : ByteArray) (i : Int) (hidx : ∀ w, Calls Tryz.prog 92 #[.string s, .string sep] w fun e w' => e = .returned (.int .i64 i) ∧ w' = w) (h0 : ¬ i ≥ 0) (w : World) :
  Calls Tryz.prog 66 #[.string s, .string sep] w fun e w' => e = .returned (.tuple #[.string s, .string ⟨#[]⟩, .bool false]) ∧ Below w.heap.size w w' := by
 have q0 : decide (i ≥ 0) = false := decide_eq_false h0;go_enter Tryz.func66, Tryz.ntmps66;go_wp2_with (go_at_call 92; refine (hidx _).mono ?_; rintro e w' ⟨rfl, rfl⟩);refine bodyPost_ret (results_tmp3 rfl _ _ _) rfl ?_;exact ⟨rfl, Below.refl _ _⟩
set_option maxHeartbeats 800000 in
set_option maxRecDepth 100000 in
theorem strings_Cut.hit (s sep : ByteArray) (i : Int) (hz : sep.size = 1) (hs : s.size ≤ 9223372036854775807) (hidx : ∀ w, Calls Tryz.prog 92 #[.string s, .string sep] w fun e w' => e = .returned (.int .i64 i) ∧ w' = w) (h0 : i ≥ 0) (h1 : i < (s.size : Int)) (w : World) :
  Calls Tryz.prog 66 #[.string s, .string sep] w fun e w' => e = .returned (.tuple #[.string (s.extract 0 i.toNat), .string (s.extract (i + 1).toNat s.size), .bool true]) ∧ Below w.heap.size w w' := by
 have q0 : decide (i ≥ 0) = true := decide_eq_true h0;(have hw : wrap64 (i + (sep.size : Int)) = i + 1 := by rw [hz]; unfold wrap64; omega);have p1 := eq_true (show (0 : Int) ≤ i by omega);have p2 := eq_true (show i ≤ (s.size : Int) by omega);have p3 := eq_true (show (0 : Int) ≤ wrap64 (i + (sep.size : Int)) by rw [hw]; omega);have p4 := eq_true (show wrap64 (i + (sep.size : Int)) ≤ (s.size : Int) by rw [hw]; omega);have HW := am hw;clear hw h0 h1 hs hz;go_enter Tryz.func66, Tryz.ntmps66;go_wp2_with (go_at_call 92; refine (hidx _).mono ?_; rintro e w' ⟨rfl, rfl⟩);go_quiet (fail);go_wp2;refine bodyPost_ret (results_tmp3 rfl _ _ _) rfl ?_;exact ⟨by rw [← HW.out]; rfl, pw_below_drewN (Below.refl _ _) _⟩
theorem strings_Cut.lite (s sep : ByteArray) (c : UInt8) (hsep : sep = ⟨#[c]⟩) (hs : s.size ≤ 9223372036854775807) (x y : ByteArray) (b : Bool) (he : strings_Cut.val s c = (x, y, b)) (w : World) :
  Calls Tryz.prog 66 #[.string s, .string sep] w fun e w' => e = .returned (.tuple #[.string x, .string y, .bool b]) ∧ Below w.heap.size w w' := by
 have hr := strings_Cut.range s.data.toList c;have hl : s.data.toList.length = s.size := rfl;(have hz : sep.size = 1 := by rw [hsep]; rfl);have hi := strings_Cut.idx s sep c hsep hs;rw [hl] at hr
 unfold strings_Cut.val at he
 generalize Lib.indexByte s.data.toList c = i at *
 by_cases h0 : i ≥ 0
 ·rw [if_pos h0, Prod.mk.injEq, Prod.mk.injEq] at he;obtain ⟨h1, h2, h3⟩ := he;have := strings_Cut.hit s sep i hz hs hi h0 hr.2 w;rw [h1, h2, h3] at this;exact this
 ·rw [if_neg h0, Prod.mk.injEq, Prod.mk.injEq] at he;obtain ⟨h1, h2, h3⟩ := he;have := strings_Cut.miss s sep i hi h0 w;rw [h2, h3] at this;subst h1;exact this
set_option maxHeartbeats 800000 in
set_option maxRecDepth 100000 in
theorem strings_Cut.own (s sep : ByteArray) (x y : ByteArray) (b : Bool) (hl : ∀ w, Calls Tryz.prog 66 #[.string s, .string sep] w fun e w' => e = .returned (.tuple #[.string x, .string y, .bool b]) ∧ Below w.heap.size w w') (w : World) :
  Calls Tryz.prog 55 #[.string s, .string sep] w fun e w' => e = .returned (.tuple #[.string x, .string y, .bool b]) ∧ Below w.heap.size w w' := by
 go_enter Tryz.func55, Tryz.ntmps55;go_wp2_with (go_at_call 66; refine (hl _).mono ?_; rintro e w' ⟨rfl, hb⟩);refine bodyPost_ret (results_tmp3 rfl _ _ _) rfl ?_;exact ⟨rfl, hb⟩
def strings_Cut.f (a0 : ByteArray) (a1 : ByteArray) : Option (ByteArray × ByteArray × Bool) :=
 if a0.size ≤ 9223372036854775807 then (match a1.data.toList with | [c] => some (strings_Cut.val a0 c) | _ => none) else none
theorem strings_Cut.calls (a0 : ByteArray) (a1 : ByteArray) (r1 : ByteArray) (r2 : ByteArray) (r3 : Bool) (w : World) (h : strings_Cut.f a0 a1 = some (r1, r2, r3)) :
  Calls Tryz.prog 55 #[.string a0, .string a1] w fun e w' => e = .returned (.tuple #[.string r1, .string r2, .bool r3]) ∧ Below w.heap.size w w' := by
 unfold strings_Cut.f at h
 split at h
 ·rename_i h1
  split at h
  ·rename_i c hc;exact strings_Cut.own a0 a1 r1 r2 r3 (strings_Cut.lite a0 a1 c (by rw [show a1 = ⟨a1.data.toList.toArray⟩ from rfl, hc]) h1 r1 r2 r3 (Option.some.inj h)) w
  ·cases h
 ·cases h
/-! ### cc_unquoted: function 57 -/
def cc_unquoted.f (a0 : ByteArray) : Option (ByteArray) := if (a0.size : Int) ≥ 2 then (if 0 < (a0.size : Int) then (if (bt a0 0) = 34 then (if 0 ≤ (wrap64 ((a0.size : Int) - 1)) then (if (wrap64 ((a0.size : Int) - 1)) < (a0.size : Int) then (if (bt a0 (wrap64 ((a0.size : Int) - 1))) = 34 then (if 1 ≤ (wrap64 ((a0.size : Int) - 1)) then (if (wrap64 ((a0.size : Int) - 1)) ≤ (a0.size : Int) then (some (a0.extract 1 ((wrap64 ((a0.size : Int) - 1)) : Int).toNat)) else (none)) else (none)) else (some a0)) else (none)) else (none)) else (some a0)) else (none)) else (some a0)
set_option maxHeartbeats 2000000 in
set_option maxRecDepth 100000 in
theorem cc_unquoted.calls (a0 : ByteArray) (r : ByteArray) (w : World) (h : cc_unquoted.f a0 = some r) :
  Calls Tryz.prog 57 #[.string a0] w fun e w' => e = .returned (.string r) ∧ Drawn0 w w' := by
 have H : (if (a0.size : Int) ≥ 2 then (if 0 < (a0.size : Int) then (if (bt a0 0) = 34 then (if 0 ≤ (wrap64 ((a0.size : Int) - 1)) then (if (wrap64 ((a0.size : Int) - 1)) < (a0.size : Int) then (if (bt a0 (wrap64 ((a0.size : Int) - 1))) = 34 then (if 1 ≤ (wrap64 ((a0.size : Int) - 1)) then (if (wrap64 ((a0.size : Int) - 1)) ≤ (a0.size : Int) then (some (a0.extract 1 ((wrap64 ((a0.size : Int) - 1)) : Int).toNat)) else (none)) else (none)) else (some a0)) else (none)) else (none)) else (some a0)) else (none)) else (some a0)) = some r := h;clear h
 by_cases c2 : (a0.size : Int) ≥ 2
 ·rw [if_pos c2] at H
  have c2b0 : decide (2 ≤ (a0.size : Int)) = true := decide_eq_true c2;have c2b1 : decide (2 ≤ a0.size) = true := decide_eq_true (by omega);clear c2
  by_cases c3 : 0 < (a0.size : Int)
  ·rw [if_pos c3] at H
   have c3b0 : decide (0 < (a0.size : Int)) = true := decide_eq_true c3;have c3b1 : decide (0 < a0.size) = true := decide_eq_true (by omega);clear c3
   by_cases c5 : (bt a0 0) = 34
   ·rw [if_pos c5] at H
    have c5b0 : ((bt a0 0) == 34) = true := beq_iff_eq.mpr c5;have c5b1 : ((bt a0 0) != 34) = false := bne_eq_false_iff_eq.mpr c5;clear c5;obtain ⟨ji6, hji6⟩ : ∃ j_ : Int, (wrap64 ((a0.size : Int) - 1)) = j_ := ⟨_, rfl⟩;(replace H : (if 0 ≤ (ji6) then (if (ji6) < (a0.size : Int) then (if (bt a0 (ji6)) = 34 then (if 1 ≤ (ji6) then (if (ji6) ≤ (a0.size : Int) then (some (a0.extract 1 ((ji6) : Int).toNat)) else (none)) else (none)) else (some a0)) else (none)) else (none)) = some r := by first | (rw [hji6] at H; exact H) | (simp only [hji6] at H ⊢; exact H));have hji6w : (IntKind.i64.wrap ((a0.size : Int) - 1)) = ji6 := (i64_w _).trans hji6
    by_cases c7 : 0 ≤ (ji6)
    ·rw [if_pos c7] at H
     have c7b0 : decide (0 ≤ (ji6)) = true := decide_eq_true c7;clear c7
     by_cases c8 : (ji6) < (a0.size : Int)
     ·rw [if_pos c8] at H
      have c8b0 : decide ((ji6) < (a0.size : Int)) = true := decide_eq_true c8;clear c8
      by_cases c10 : (bt a0 (ji6)) = 34
      ·rw [if_pos c10] at H
       have c10b0 : ((bt a0 (ji6)) == 34) = true := beq_iff_eq.mpr c10;have c10b1 : ((bt a0 (ji6)) != 34) = false := bne_eq_false_iff_eq.mpr c10;clear c10
       by_cases c11 : 1 ≤ (ji6)
       ·rw [if_pos c11] at H
        have c11b0 := eq_true c11;have c11b1 : decide (1 ≤ (ji6)) = true := decide_eq_true c11;clear c11
        by_cases c12 : (ji6) ≤ (a0.size : Int)
        ·rw [if_pos c12] at H
         have c12b0 := eq_true c12;have c12b1 : decide ((ji6) ≤ (a0.size : Int)) = true := decide_eq_true c12;clear c12;obtain rfl := Option.some.inj H;have p4 : 0 ≤ (0 : Int) := (by omega);have q4 : 0 < a0.size := (by have : (0 : Int) < (a0.size : Int) := of_decide_eq_true (by first | (with_reducible assumption) | assumption); omega);have hx4 : ∀ h : 0 < a0.size, ((a0[0]'h).toNat : Int) = bt a0 0 := bt_at a0 0;clear p4;have qi4 : (0 < (a0.size : Int)) = True := eq_true (of_decide_eq_true (by first | (with_reducible assumption) | assumption));replace q4 := eq_true q4;have p9 : 0 ≤ ((ji6) : Int) := of_decide_eq_true (by first | (with_reducible assumption) | assumption);have q9 : (ji6) < (a0.size : Int) := of_decide_eq_true (by first | (with_reducible assumption) | assumption);have hx9 := bt_at a0 (ji6);replace p9 := eq_true p9;replace q9 := eq_true q9
         (try (have e_c5b0 := c5b0; simp only [c2b0, c3b0, c7b0, c8b0, c10b0] at e_c5b0; simp at e_c5b0))
         (try (have e_c10b0 := c10b0; simp only [c2b0, c3b0, c5b0, c7b0, c8b0] at e_c10b0; simp at e_c10b0))
         go_enter Tryz.func57, Tryz.ntmps57;go_wp2;go_ret;exact ⟨by first | rfl | (simp; done) | (simp only [← hji6] <;> (first | rfl | simp)) | (simp [*]; done), by repeat (first | exact Drawn0.refl _ | apply Drawn0.step)⟩
        ·rw [if_neg c12] at H;exact absurd H (by simp)
       ·rw [if_neg c11] at H;exact absurd H (by simp)
      ·rw [if_neg c10] at H
       have c10b0 : ((bt a0 (ji6)) == 34) = false := beq_eq_false_iff_ne.mpr c10;have c10b1 : ((bt a0 (ji6)) != 34) = true := bne_iff_ne.mpr c10;obtain rfl := Option.some.inj H;have p4 : 0 ≤ (0 : Int) := (by omega);have q4 : 0 < a0.size := (by have : (0 : Int) < (a0.size : Int) := of_decide_eq_true (by first | (with_reducible assumption) | assumption); omega);have hx4 : ∀ h : 0 < a0.size, ((a0[0]'h).toNat : Int) = bt a0 0 := bt_at a0 0;clear p4;have qi4 : (0 < (a0.size : Int)) = True := eq_true (of_decide_eq_true (by first | (with_reducible assumption) | assumption));replace q4 := eq_true q4;have p9 : 0 ≤ ((ji6) : Int) := of_decide_eq_true (by first | (with_reducible assumption) | assumption);have q9 : (ji6) < (a0.size : Int) := of_decide_eq_true (by first | (with_reducible assumption) | assumption);have hx9 := bt_at a0 (ji6);replace p9 := eq_true p9;replace q9 := eq_true q9
       (try (have e_c5b0 := c5b0; simp only [c2b0, c3b0, c7b0, c8b0, c10b0] at e_c5b0; simp at e_c5b0))
       (try (have e_c10b0 := c10b0; simp only [c2b0, c3b0, c5b0, c7b0, c8b0] at e_c10b0; simp at e_c10b0))
       go_enter Tryz.func57, Tryz.ntmps57;go_wp2;go_ret;exact ⟨by first | rfl | (simp; done) | (simp only [← hji6] <;> (first | rfl | simp)) | (simp [*]; done), by repeat (first | exact Drawn0.refl _ | apply Drawn0.step)⟩
     ·rw [if_neg c8] at H;exact absurd H (by simp)
    ·rw [if_neg c7] at H;exact absurd H (by simp)
   ·rw [if_neg c5] at H
    have c5b0 : ((bt a0 0) == 34) = false := beq_eq_false_iff_ne.mpr c5;have c5b1 : ((bt a0 0) != 34) = true := bne_iff_ne.mpr c5;obtain rfl := Option.some.inj H;have p4 : 0 ≤ (0 : Int) := (by omega);have q4 : 0 < a0.size := (by have : (0 : Int) < (a0.size : Int) := of_decide_eq_true (by first | (with_reducible assumption) | assumption); omega);have hx4 : ∀ h : 0 < a0.size, ((a0[0]'h).toNat : Int) = bt a0 0 := bt_at a0 0;clear p4;have qi4 : (0 < (a0.size : Int)) = True := eq_true (of_decide_eq_true (by first | (with_reducible assumption) | assumption));replace q4 := eq_true q4
    (try (have e_c5b0 := c5b0; simp only [c2b0, c3b0] at e_c5b0; simp at e_c5b0))
    go_enter Tryz.func57, Tryz.ntmps57;go_wp2;go_ret;exact ⟨by first | rfl | (simp; done) | (simp [*]; done), by repeat (first | exact Drawn0.refl _ | apply Drawn0.step)⟩
  ·rw [if_neg c3] at H;exact absurd H (by simp)
 ·rw [if_neg c2] at H;have c2b0 : decide (2 ≤ (a0.size : Int)) = false := decide_eq_false c2;have c2b1 : decide (2 ≤ a0.size) = false := decide_eq_false (by omega);clear c2;obtain rfl := Option.some.inj H;go_enter Tryz.func57, Tryz.ntmps57;go_wp2;go_ret;exact ⟨by first | rfl | (simp; done) | (simp [*]; done), by repeat (first | exact Drawn0.refl _ | apply Drawn0.step)⟩
/-! ### bits_Clip: function 107 -/
def bits_Clip.f (a0 : Int) : Option (Int) := some (mn (mx a0 0) 2147483648)
set_option maxHeartbeats 2000000 in
set_option maxRecDepth 100000 in
theorem bits_Clip.calls (a0 : Int) (r : Int) (w : World) (h : bits_Clip.f a0 = some r) :
  Calls Tryz.prog 107 #[.int .i64 a0] w fun e w' => e = .returned (.int .i64 r) ∧ Below w.heap.size w w' := by
 have HB := am (Below.refl w.heap.size w);have H : (some (mn (mx a0 0) 2147483648)) = some r := h;clear h;obtain ⟨ji2, hji2⟩ : ∃ j_ : Int, (mx a0 0) = j_ := ⟨_, rfl⟩;(replace H : (some (mn (ji2) 2147483648)) = some r := by first | (rw [hji2] at H; exact H) | (simp only [hji2] at H ⊢; exact H))
 (try (have hji2l : 0 ≤ ji2 := by (rw [← hji2]; unfold mx; (repeat' split) <;> omega)))
 (try (have hji2m : 0 ≤ ji2 := by omega))
 have hji2_ : (if a0 < 0 then 0 else a0) = ji2 := hji2;obtain ⟨ji3, hji3⟩ : ∃ j_ : Int, (mn (ji2) 2147483648) = j_ := ⟨_, rfl⟩;(replace H : (some ji3) = some r := by first | (rw [hji3] at H; exact H) | (simp only [hji3] at H ⊢; exact H));have hji3_ : (if 2147483648 < (ji2) then 2147483648 else (ji2)) = ji3 := hji3;obtain rfl := Option.some.inj H;go_enter Tryz.func107, Tryz.ntmps107;go_wp2;go_ret;exact ⟨by first | rfl | (simp [errW_none, errW_some] <;> rfl) | (simp only [← hji2, ← hji3]; first | rfl | (simp [errW_none, errW_some] <;> rfl)) | (simp [*, errW_none, errW_some] <;> rfl), by repeat (first | (with_reducible first | exact HB.out | apply below_alloc | apply pw_below_drewN | apply below_drew1) | exact HB.out)⟩
end Go.Proofs.YtbnlglfddglceaaGreatDoor.Q
