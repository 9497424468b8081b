-- Written by a program of this session's (wip/xprint.py), out of the seat's translation.
import Derived.Test.YtfjeagglminhoaaGreatDoorQ0
import Derived.Test.YtfjeagglminhoaaGreatDoorQ3
import Derived.Test.YtfjeagglminhoaaGreatDoorSh
namespace Go.Proofs.YtfjeagglminhoaaGreatDoor.Q
open Go.RowKit Go.Proofs.YtfjeagglminhoaaGreatDoorW.PrintWords Go.Proofs.YtfjeagglminhoaaGreatDoorW.PrintLast Go.Proofs.YtfjeagglminhoaaGreatDoorW.PrintMore
open Go.Proofs.YtfjeagglminhoaaGreatDoor.Own (Y Z sA sB sC)
open Go.Proofs.YtfjeagglminhoaaGreatDoor.Sh
attribute [local go_sem] max2_int min2_int max_two min_two max_three min_three max_four min_four   -- for this text's walks alone
set_option linter.unusedVariables false
set_option linter.unusedSimpArgs false
/-! ### sprlaw21_first: function 4 -/
theorem use_nil (w : World) : Kd.C k33 w none ([] : List S33).length [] := ⟨rfl, by decide, fun h => absurd h (by simp)⟩
theorem use_lit (w : World) (x : S33) (t : TypeId) : Kd.C k33 (w.alloc (.cells #[.string x.f0, .string x.f1] t)) (some ⟨w.heap.size, 0, none⟩) 1 [x] := by
 refine ⟨rfl, by decide, fun _ => ⟨_, rfl, fun i y hy => ?_⟩⟩;(have hi : i = 0 := by have := (List.getElem?_eq_some_iff.1 hy).1; simp at this; exact this);subst hi;obtain rfl : x = y := Option.some.inj hy;refine ⟨[.string x.f0, .string x.f1], rfl, k33.K_of_M (k33_mkM (w.alloc (.cells #[.string x.f0, .string x.f1] t)) 0 (fun _ => True) x), fun j v hv => ?_⟩;(have hj : j = 0 ∨ j = 1 := by have := (List.getElem?_eq_some_iff.1 hv).1; simp at this; omega)
 rcases hj with rfl | rfl
 ·obtain rfl : Value.string x.f0 = v := Option.some.inj hv;exact (blk_cell (blk_new w (.cells #[.string x.f0, .string x.f1] t)) 0).trans rfl
 ·obtain rfl : Value.string x.f1 = v := Option.some.inj hv;exact (blk_cell (blk_new w (.cells #[.string x.f0, .string x.f1] t)) 1).trans rfl
theorem sprlaw21_first.p1 (w : World) : Calls Tryz.prog 11 #[.bool false, .slice none 0 0, .slice none 0 0, .int .i64 5, .int .i64 6] w fun e w' => e = .returned (.int .i64 1) ∧ Below w.heap.size w w' :=
 use_Decide.calls 60 false none 0 [] none 0 [] 5 6 1 w (use_nil w) (Nat.le_refl _) (use_nil w) (Nat.le_refl _) (by kernel_rfl)
theorem sprlaw21_first.p2 (w : World) : Calls Tryz.prog 11 #[.bool false, .slice none 0 0, .slice none 0 0, .int .i64 5, .int .i64 5] w fun e w' => e = .returned (.int .i64 3) ∧ Below w.heap.size w w' :=
 use_Decide.calls 60 false none 0 [] none 0 [] 5 5 3 w (use_nil w) (Nat.le_refl _) (use_nil w) (Nat.le_refl _) (by kernel_rfl)
def sprlaw21_first.x : S33 := ⟨(⟨#[67, 97, 99, 104, 101, 45, 67, 111, 110, 116, 114, 111, 108]⟩ : ByteArray), (⟨#[109, 97, 120, 45, 115, 116, 97, 108, 101]⟩ : ByteArray)⟩
theorem sprlaw21_first.p3 (A : Option Addr) (w : World) (hr : Kd.C k33 w A 1 [sprlaw21_first.x]) : Calls Tryz.prog 11 #[.bool false, .slice A 1 1, .slice none 0 0, .int .i64 5, .int .i64 5] w fun e w' => e = .returned (.int .i64 2) ∧ Below w.heap.size w w' :=
 use_Decide.calls 60 false A 1 [sprlaw21_first.x] none 0 [] 5 5 2 w hr (Nat.le_refl _) (use_nil w) (Nat.le_refl _) (by kernel_rfl)
set_option maxHeartbeats 1000000 in
set_option maxRecDepth 100000 in
theorem sprlaw21_first.own (w : World) :
  Calls Tryz.prog 4 #[] w fun e w' => e = .returned (.bool true) ∧ Below w.heap.size w w' := by
 have hu29 := Tryz.underlying33;have HL := Aside0.mk (use_lit w sprlaw21_first.x 33);have HB := Aside0.mk ((Below.refl w.heap.size w).alloc (Nat.le_refl _) (.cells #[.string sprlaw21_first.x.f0, .string sprlaw21_first.x.f1] 33));have T0 := Aside0.mk trivial;go_enter Tryz.func4, Tryz.ntmps4;go_wp2_with (first | (clear T0; go_at_call 11; (with_reducible refine (sprlaw21_first.p1 _).mono ?_); rintro e w1 ⟨rfl, hb⟩; have n0_ := Aside0.mk (Kd.C_below HL.out hb); have n1_ := Aside0.mk (HB.out.trans (hb.mono HB.out.size)); clear HL HB hb; have HL := n0_; have HB := n1_; clear n0_ n1_; have T1 := Aside0.mk trivial) | (clear T1; go_at_call 11; (with_reducible refine (sprlaw21_first.p2 _).mono ?_); rintro e w1 ⟨rfl, hb⟩; have n0_ := Aside0.mk (Kd.C_below HL.out hb); have n1_ := Aside0.mk (HB.out.trans (hb.mono HB.out.size)); clear HL HB hb; have HL := n0_; have HB := n1_; clear n0_ n1_; have T2 := Aside0.mk trivial) | (clear T2; go_at_call 11; (with_reducible refine (sprlaw21_first.p3 _ _ HL.out).mono ?_); rintro e w1 ⟨rfl, hb⟩; have n1_ := Aside0.mk (HB.out.trans (hb.mono HB.out.size)); clear HL HB hb; have HB := n1_; clear n1_));go_ret;exact ⟨rfl, HB.out⟩
def sprlaw21_first.f (k : Nat) : Option Bool := some true
theorem sprlaw21_first.mono : ∀ k, LeO (sprlaw21_first.f k) (sprlaw21_first.f (k + 1)) := fun _ => LeO.refl _
theorem sprlaw21_first.calls (k : Nat) (r : Bool) (w : World) (h : sprlaw21_first.f k = some r) :
  Calls Tryz.prog 4 #[] w fun e w' => e = .returned (.bool r) ∧ Below w.heap.size w w' := by
 obtain rfl : true = r := Option.some.inj h;exact sprlaw21_first.own w
/-! ### sprlaw13_Few: function 5 -/
def sprlaw13_Few.l0 : Nat → List (S33) → Int → Int → Option (Bool)
 | 0, _, _, _ => none
 | k + 1, x0, x3, x4 => if x4 < (x0.length : Int) then (if x4 < 80 then (if 0 ≤ x4 then (sprlaw13_Few.l0 k x0 (mn (wrap64 ((wrap64 (x3 + (mn (((rd_T33 x0 x4).f0).size : Int) 20000))) + (mn (((rd_T33 x0 x4).f1).size : Int) 20000))) 80000) (wrap64 (x4 + 1))) else (none)) else (if (x0.length : Int) ≤ 80 then (some (decide (x3 ≤ 20000))) else (some false))) else (if (x0.length : Int) ≤ 80 then (some (decide (x3 ≤ 20000))) else (some false))
def sprlaw13_Few.f (k : Nat) (l0 : List (S33)) : Option (Bool) := sprlaw13_Few.l0 k l0 0 0
theorem sprlaw13_Few.mono_l : ∀ k, (∀ y0 y1 y2, LeO (sprlaw13_Few.l0 k y0 y1 y2) (sprlaw13_Few.l0 (k + 1) y0 y1 y2))
 | 0 => fun _ _ _ r h => by simp [sprlaw13_Few.l0] at h
 | k + 1 => by
  have ih0 := sprlaw13_Few.mono_l k
  ·intro y0 y1 y2
   unfold sprlaw13_Few.l0
   repeat' first
   | (with_reducible exact ih0 _ _ _)
   | (with_reducible exact LeO.refl _)
   | (with_reducible exact LeO.none _)
   | (with_reducible refine LeO.ite ?_ ?_)
   | (with_reducible refine LeO.bind ?_ (fun _ => ?_))
   | exact ih0 _ _ _
   | exact LeO.none _
   | refine LeO.ite ?_ ?_
   | refine LeO.bind ?_ (fun _ => ?_)
theorem sprlaw13_Few.mono : ∀ a0 k, LeO (sprlaw13_Few.f k a0) (sprlaw13_Few.f (k + 1) a0) := by
 intro a0 k;have ih0 := sprlaw13_Few.mono_l k
 unfold sprlaw13_Few.f
 repeat' first
   | (with_reducible exact ih0 _ _ _)
   | (with_reducible exact LeO.refl _)
   | (with_reducible exact LeO.none _)
   | (with_reducible refine LeO.ite ?_ ?_)
   | (with_reducible refine LeO.bind ?_ (fun _ => ?_))
   | exact ih0 _ _ _
   | exact LeO.none _
   | refine LeO.ite ?_ ?_
   | refine LeO.bind ?_ (fun _ => ?_)
set_option maxHeartbeats 2000000 in
set_option maxRecDepth 100000 in
theorem sprlaw13_Few.calls (k : Nat) (A0 : Option Addr) (c0 : Nat) (l0 : List (S33)) (r : Bool) (w : World) (hr0 : Kd.C k33 w A0 l0.length l0) (hc0 : l0.length ≤ c0) (h : sprlaw13_Few.f k l0 = some r) :
  Calls Tryz.prog 5 #[.slice A0 l0.length c0] w fun e w' => e = .returned (.bool r) ∧ Below w.heap.size w w' := by
 have HR0 := Aside0.mk hr0;have HC0 := Aside0.mk hc0;clear hr0 hc0;have HB := Aside0.mk (Below.refl w.heap.size w);have H : (sprlaw13_Few.l0 k l0 0 0) = some r := h;clear h;have H' := Aside0.mk H;clear H;go_enter Tryz.func5, Tryz.ntmps5;go_wp2
 repeat (go_quiet (fail); try go_wp2)
 go_loopg [3, 4] k (fun kq v3 v4 w' => ∃ (x3_1 : Int) (x4_1 : Int), v3 = .int .i64 x3_1 ∧ v4 = .int .i64 x4_1 ∧ Aside0 (sprlaw13_Few.l0 kq l0 x3_1 x4_1 = some r) ∧ Aside0 (kq ≤ k) ∧ Aside0 (Below w.heap.size w w'))
 case atStart => exact ⟨(0), (0), (by first | rfl | (simp; done) | (simp [*]; done)), (by first | rfl | (simp; done) | (simp [*]; done)), H', ⟨Nat.le_refl _⟩, ⟨hA HB.out⟩⟩
 case round =>
  clear H';obtain ⟨x3_1, x4_1, rfl, rfl, HA, HK1, HB⟩ := hrel
  cases gk with
  | zero => exact absurd HA.out (by simp [sprlaw13_Few.l0])
  | succ k1 =>
   have H := HA.out;clear HA;simp only [sprlaw13_Few.l0] at H
   by_cases c2 : x4_1 < (l0.length : Int)
   ·rw [if_pos c2] at H
    have c2b0 : decide (x4_1 < (l0.length : Int)) = true := decide_eq_true c2;clear c2
    by_cases c3 : x4_1 < 80
    ·rw [if_pos c3] at H
     have c3b0 : decide (x4_1 < 80) = true := decide_eq_true c3;clear c3
     by_cases c4 : 0 ≤ x4_1
     ·rw [if_pos c4] at H
      have c4b0 : decide (0 ≤ x4_1) = true := decide_eq_true c4;clear c4;obtain ⟨ji5, hji5⟩ : ∃ j_ : Int, (mn (((rd_T33 l0 x4_1).f0).size : Int) 20000) = j_ := ⟨_, rfl⟩;(replace H : (sprlaw13_Few.l0 k1 l0 (mn (wrap64 ((wrap64 (x3_1 + (ji5))) + (mn (((rd_T33 l0 x4_1).f1).size : Int) 20000))) 80000) (wrap64 (x4_1 + 1))) = some r := by first | (rw [hji5] at H; exact H) | (simp only [hji5] at H ⊢; exact H));have hji5_ : (if 20000 < (((rd_T33 l0 x4_1).f0).size : Int) then 20000 else (((rd_T33 l0 x4_1).f0).size : Int)) = ji5 := hji5;obtain ⟨ji6, hji6⟩ : ∃ j_ : Int, (mn (((rd_T33 l0 x4_1).f1).size : Int) 20000) = j_ := ⟨_, rfl⟩;(replace H : (sprlaw13_Few.l0 k1 l0 (mn (wrap64 ((wrap64 (x3_1 + (ji5))) + (ji6))) 80000) (wrap64 (x4_1 + 1))) = some r := by first | (rw [hji6] at H; exact H) | (simp only [hji6] at H ⊢; exact H));have hji6_ : (if 20000 < (((rd_T33 l0 x4_1).f1).size : Int) then 20000 else (((rd_T33 l0 x4_1).f1).size : Int)) = ji6 := hji6;obtain ⟨ji7, hji7⟩ : ∃ j_ : Int, (mn (wrap64 ((wrap64 (x3_1 + (ji5))) + (ji6))) 80000) = j_ := ⟨_, rfl⟩;(replace H : (sprlaw13_Few.l0 k1 l0 ji7 (wrap64 (x4_1 + 1))) = some r := by first | (rw [hji7] at H; exact H) | (simp only [hji7] at H ⊢; exact H));have hji7_ : (if 80000 < (wrap64 ((wrap64 (x3_1 + (ji5))) + (ji6))) then 80000 else (wrap64 ((wrap64 (x3_1 + (ji5))) + (ji6)))) = ji7 := hji7;have H' := Aside0.mk H;clear H;have p123 : 0 ≤ (x4_1 : Int) := of_decide_eq_true (by first | (with_reducible assumption) | assumption);have q123 : x4_1 < (l0.length : Int) := of_decide_eq_true (by first | (with_reducible assumption) | assumption);obtain ⟨ad123, e123, hx123_0, hx123_1⟩ := at_T33 HR0.out x4_1 p123 q123
      cases e123
      replace hx123_0 := (HB.out.cell (World.block_lt_of_cell? w _ hx123_0)).trans hx123_0;replace hx123_1 := (HB.out.cell (World.block_lt_of_cell? w _ hx123_1)).trans hx123_1;replace p123 := eq_true p123;replace q123 := eq_true q123;have p124 : 0 ≤ (x4_1 : Int) := of_decide_eq_true (by first | (with_reducible assumption) | assumption);have q124 : x4_1 < (l0.length : Int) := of_decide_eq_true (by first | (with_reducible assumption) | assumption);obtain ⟨ad124, e124, hx124_0, hx124_1⟩ := at_T33 HR0.out x4_1 p124 q124;obtain rfl : ad123 = ad124 := (by injection e124);replace hx124_0 := (HB.out.cell (World.block_lt_of_cell? w _ hx124_0)).trans hx124_0;replace hx124_1 := (HB.out.cell (World.block_lt_of_cell? w _ hx124_1)).trans hx124_1;replace p124 := eq_true p124;replace q124 := eq_true q124;go_wp2
      repeat (go_quiet (fail); try go_wp2)
      go_roundg k1
      case measure => have := HK1.out; omega
      case rel => exact ⟨(ji7), (wrap64 (x4_1 + 1)), (by first | rfl | (simp; done) | (simp only [← hji7] <;> (first | rfl | simp)) | (simp [*]; done)), (by first | rfl | (simp; done) | (simp [*]; done)), H', ⟨by have := HK1.out; omega⟩, ⟨hA HB.out⟩⟩
     ·rw [if_neg c4] at H;exact absurd H (by simp)
    ·rw [if_neg c3] at H
     have c3b0 : decide (x4_1 < 80) = false := decide_eq_false c3;clear c3
     by_cases c8 : (l0.length : Int) ≤ 80
     ·rw [if_pos c8] at H
      have c8b0 : decide ((l0.length : Int) ≤ 80) = true := decide_eq_true c8;have c8b1 : decide (l0.length ≤ 80) = true := decide_eq_true (by omega);clear c8;obtain rfl := Option.some.inj H;go_wp2
      repeat (go_quiet (fail); try go_wp2)
      go_ret;exact ⟨by first | rfl | (simp [errW_none, errW_some] <;> rfl) | (simp [*, errW_none, errW_some] <;> rfl), by repeat (first | (with_reducible first | exact HB.out | apply below_alloc | apply pw_below_drewN | apply below_drew1) | exact HB.out)⟩
     ·rw [if_neg c8] at H
      have c8b0 : decide ((l0.length : Int) ≤ 80) = false := decide_eq_false c8;have c8b1 : decide (l0.length ≤ 80) = false := decide_eq_false (by omega);clear c8;obtain rfl := Option.some.inj H;go_wp2
      repeat (go_quiet (fail); try go_wp2)
      go_ret;exact ⟨by first | rfl | (simp [errW_none, errW_some] <;> rfl) | (simp [*, errW_none, errW_some] <;> rfl), by repeat (first | (with_reducible first | exact HB.out | apply below_alloc | apply pw_below_drewN | apply below_drew1) | exact HB.out)⟩
   ·rw [if_neg c2] at H
    have c2b0 : decide (x4_1 < (l0.length : Int)) = false := decide_eq_false c2;clear c2
    by_cases c9 : (l0.length : Int) ≤ 80
    ·rw [if_pos c9] at H
     have c9b0 : decide ((l0.length : Int) ≤ 80) = true := decide_eq_true c9;have c9b1 : decide (l0.length ≤ 80) = true := decide_eq_true (by omega);clear c9;obtain rfl := Option.some.inj H;go_wp2
     repeat (go_quiet (fail); try go_wp2)
     go_ret;exact ⟨by first | rfl | (simp [errW_none, errW_some] <;> rfl) | (simp [*, errW_none, errW_some] <;> rfl), by repeat (first | (with_reducible first | exact HB.out | apply below_alloc | apply pw_below_drewN | apply below_drew1) | exact HB.out)⟩
    ·rw [if_neg c9] at H
     have c9b0 : decide ((l0.length : Int) ≤ 80) = false := decide_eq_false c9;have c9b1 : decide (l0.length ≤ 80) = false := decide_eq_false (by omega);clear c9;obtain rfl := Option.some.inj H;go_wp2
     repeat (go_quiet (fail); try go_wp2)
     go_ret;exact ⟨by first | rfl | (simp [errW_none, errW_some] <;> rfl) | (simp [*, errW_none, errW_some] <;> rfl), by repeat (first | (with_reducible first | exact HB.out | apply below_alloc | apply pw_below_drewN | apply below_drew1) | exact HB.out)⟩
/-! ### stringslite_HasPrefix: function 64 -/
def stringslite_HasPrefix.f (a0 : ByteArray) (a1 : ByteArray) : Option (Bool) := if (a0.size : Int) ≥ (a1.size : Int) then (if 0 ≤ (a1.size : Int) then (if (a1.size : Int) ≤ (a0.size : Int) then (some ((a0.extract 0 ((a1.size : Int) : Int).toNat).toList == a1.toList)) else (none)) else (none)) else (some false)
set_option maxHeartbeats 2000000 in
set_option maxRecDepth 100000 in
theorem stringslite_HasPrefix.calls (a0 : ByteArray) (a1 : ByteArray) (r : Bool) (w : World) (h : stringslite_HasPrefix.f a0 a1 = some r) :
  Calls Tryz.prog 64 #[.string a0, .string a1] w fun e w' => e = .returned (.bool r) ∧ Drawn0 w w' := by
 have H : (if (a0.size : Int) ≥ (a1.size : Int) then (if 0 ≤ (a1.size : Int) then (if (a1.size : Int) ≤ (a0.size : Int) then (some ((a0.extract 0 ((a1.size : Int) : Int).toNat).toList == a1.toList)) else (none)) else (none)) else (some false)) = some r := h;clear h
 by_cases c3 : (a0.size : Int) ≥ (a1.size : Int)
 ·rw [if_pos c3] at H
  have c3b0 : decide ((a1.size : Int) ≤ (a0.size : Int)) = true := decide_eq_true c3;have c3b1 : decide (a1.size ≤ a0.size) = true := decide_eq_true (Int.ofNat_le.mp c3);clear c3
  by_cases c4 : 0 ≤ (a1.size : Int)
  ·rw [if_pos c4] at H
   have c4b0 := eq_true c4;have c4b1 : decide (0 ≤ (a1.size : Int)) = true := decide_eq_true c4;clear c4
   by_cases c5 : (a1.size : Int) ≤ (a0.size : Int)
   ·rw [if_pos c5] at H;have c5b0 := eq_true c5;have c5b1 : decide ((a1.size : Int) ≤ (a0.size : Int)) = true := decide_eq_true c5;clear c5;obtain rfl := Option.some.inj H;go_enter Tryz.func64, Tryz.ntmps64;go_wp2;go_ret;exact ⟨by first | rfl | (simp; done) | (simp [*]; done), by repeat (first | exact Drawn0.refl _ | apply Drawn0.step)⟩
   ·rw [if_neg c5] at H;exact absurd H (by simp)
  ·rw [if_neg c4] at H;exact absurd H (by simp)
 ·rw [if_neg c3] at H;have c3b0 : decide ((a1.size : Int) ≤ (a0.size : Int)) = false := decide_eq_false c3;have c3b1 : decide (a1.size ≤ a0.size) = false := decide_eq_false (fun h => c3 (Int.ofNat_le.mpr h));clear c3;obtain rfl := Option.some.inj H;go_enter Tryz.func64, Tryz.ntmps64;go_wp2;go_ret;exact ⟨by first | rfl | (simp; done) | (simp [*]; done), by repeat (first | exact Drawn0.refl _ | apply Drawn0.step)⟩
/-! ### stringslite_CutPrefix: function 46 -/
def stringslite_CutPrefix.f (a0 : ByteArray) (a1 : ByteArray) : Option (ByteArray × Bool) := (stringslite_HasPrefix.f a0 a1).bind fun t125 => (if t125 = true then (if 0 ≤ (a1.size : Int) then (if (a1.size : Int) ≤ (a0.size : Int) then (some (a0.extract ((a1.size : Int) : Int).toNat a0.size, true)) else (none)) else (none)) else (some (a0, false)))
set_option maxHeartbeats 2000000 in
set_option maxRecDepth 100000 in
theorem stringslite_CutPrefix.calls (a0 : ByteArray) (a1 : ByteArray) (r1 : ByteArray) (r2 : Bool) (w : World) (h : stringslite_CutPrefix.f a0 a1 = some (r1, r2)) :
  Calls Tryz.prog 46 #[.string a0, .string a1] w fun e w' => e = .returned (.tuple #[.string r1, .bool r2]) ∧ Drawn0 w w' := by
 have H : ((stringslite_HasPrefix.f a0 a1).bind fun t125 => (if t125 = true then (if 0 ≤ (a1.size : Int) then (if (a1.size : Int) ≤ (a0.size : Int) then (some (a0.extract ((a1.size : Int) : Int).toNat a0.size, true)) else (none)) else (none)) else (some (a0, false)))) = some (r1, r2) := h;clear h;replace H := Option.bind_eq_some_iff.mp H;obtain ⟨t125, A30, H⟩ := H;replace H : (if t125 = true then (if 0 ≤ (a1.size : Int) then (if (a1.size : Int) ≤ (a0.size : Int) then (some (a0.extract ((a1.size : Int) : Int).toNat a0.size, true)) else (none)) else (none)) else (some (a0, false))) = some (r1, r2) := H;have A3 := Aside0.mk A30;clear A30
 by_cases c4 : t125 = true
 ·subst c4
  (have H1 : (if 0 ≤ (a1.size : Int) then (if (a1.size : Int) ≤ (a0.size : Int) then (some (a0.extract ((a1.size : Int) : Int).toNat a0.size, true)) else (none)) else (none)) = some (r1, r2) := by rw [if_pos rfl] at H; exact H);clear H;have H := H1;clear H1
  by_cases c5 : 0 ≤ (a1.size : Int)
  ·rw [if_pos c5] at H
   have c5b0 := eq_true c5;have c5b1 : decide (0 ≤ (a1.size : Int)) = true := decide_eq_true c5;clear c5
   by_cases c6 : (a1.size : Int) ≤ (a0.size : Int)
   ·rw [if_pos c6] at H;have c6b0 := eq_true c6;have c6b1 : decide ((a1.size : Int) ≤ (a0.size : Int)) = true := decide_eq_true c6;clear c6;simp only [Option.some.injEq, Prod.mk.injEq] at H;obtain ⟨rfl, rfl⟩ := H;go_enter Tryz.func46, Tryz.ntmps46;go_wp2_with (first | ((with_reducible refine gate_callee (f:=64) rfl ?_); refine goesL_ (some 8) rfl rfl Tryz.func64 (by kernel_rfl) rfl #[.string a0, .string a1] rfl (by (try simp only [List.map_toArray, List.map_cons, List.map_nil]); first | done | rfl | (simp only [List.length_drop, List.length_take]; rfl)) ?_; (with_reducible refine (stringslite_HasPrefix.calls a0 a1 true _ A3.out).mono ?_); rintro e w' ⟨rfl, ⟨nd, rfl⟩⟩; refine ⟨_, rfl, ?_⟩));go_ret2;exact ⟨by first | rfl | (simp; done) | (simp [*]; done), by repeat (first | exact Drawn0.refl _ | apply Drawn0.step)⟩
   ·rw [if_neg c6] at H;exact absurd H (by simp)
  ·rw [if_neg c5] at H;exact absurd H (by simp)
 ·replace c4 := Bool.eq_false_iff.mpr c4;subst c4;(have H1 : (some (a0, false)) = some (r1, r2) := by rw [if_neg (show ¬ (false = true) by decide)] at H; exact H);clear H;have H := H1;clear H1;simp only [Option.some.injEq, Prod.mk.injEq] at H;obtain ⟨rfl, rfl⟩ := H;go_enter Tryz.func46, Tryz.ntmps46;go_wp2_with (first | ((with_reducible refine gate_callee (f:=64) rfl ?_); refine goesL_ (some 8) rfl rfl Tryz.func64 (by kernel_rfl) rfl #[.string a0, .string a1] rfl (by (try simp only [List.map_toArray, List.map_cons, List.map_nil]); first | done | rfl | (simp only [List.length_drop, List.length_take]; rfl)) ?_; (with_reducible refine (stringslite_HasPrefix.calls a0 a1 false _ A3.out).mono ?_); rintro e w' ⟨rfl, ⟨nd, rfl⟩⟩; refine ⟨_, rfl, ?_⟩));go_ret2;exact ⟨by first | rfl | (simp; done) | (simp [*]; done), by repeat (first | exact Drawn0.refl _ | apply Drawn0.step)⟩
/-! ### strings_CutPrefix: function 31 -/
def strings_CutPrefix.f (a0 : ByteArray) (a1 : ByteArray) : Option (ByteArray × Bool) := (stringslite_CutPrefix.f a0 a1).bind fun bt126 => (some (bt126.1, bt126.2))
set_option maxHeartbeats 2000000 in
set_option maxRecDepth 100000 in
theorem strings_CutPrefix.calls (a0 : ByteArray) (a1 : ByteArray) (r1 : ByteArray) (r2 : Bool) (w : World) (h : strings_CutPrefix.f a0 a1 = some (r1, r2)) :
  Calls Tryz.prog 31 #[.string a0, .string a1] w fun e w' => e = .returned (.tuple #[.string r1, .bool r2]) ∧ Drawn0 w w' := by
 have H : ((stringslite_CutPrefix.f a0 a1).bind fun bt126 => (some (bt126.1, bt126.2))) = some (r1, r2) := h;clear h;replace H := Option.bind_eq_some_iff.mp H;obtain ⟨⟨t126, t127⟩, A30, H⟩ := H;replace H : (some (t126, t127)) = some (r1, r2) := H;have A3 := Aside0.mk A30;clear A30;simp only [Option.some.injEq, Prod.mk.injEq] at H;obtain ⟨rfl, rfl⟩ := H;go_enter Tryz.func31, Tryz.ntmps31;go_wp2_with (first | ((with_reducible refine gate_callee (f:=46) rfl ?_); refine goesL_ (some 8) rfl rfl Tryz.func46 (by kernel_rfl) rfl #[.string a0, .string a1] rfl (by (try simp only [List.map_toArray, List.map_cons, List.map_nil]); first | done | rfl | (simp only [List.length_drop, List.length_take]; rfl)) ?_; (with_reducible refine (stringslite_CutPrefix.calls a0 a1 t126 t127 _ A3.out).mono ?_); rintro e w' ⟨rfl, ⟨nd, rfl⟩⟩; refine ⟨_, rfl, ?_⟩));go_ret2;exact ⟨by first | rfl | (simp; done) | (simp [*]; done), by repeat (first | exact Drawn0.refl _ | apply Drawn0.step)⟩
/-! ### etag_may: function 32 -/
def etag_may.l0 : Nat → ByteArray → Int → Int → Option (Bool)
 | 0, _, _, _ => none
 | k + 1, x0, x5, x6 => if x6 < x5 then (if 0 ≤ x6 then (if x6 < (x0.size : Int) then (if (bt x0 x6) < 33 then (some false) else (if (bt x0 x6) = 34 then (some false) else (if (bt x0 x6) = 127 then (some false) else (etag_may.l0 k x0 x5 (wrap64 (x6 + 1)))))) else (none)) else (none)) else (some true)
def etag_may.f (k : Nat) (a0 : ByteArray) : Option (Bool) := etag_may.l0 k a0 (a0.size : Int) 0
theorem etag_may.mono_l : ∀ k, (∀ y0 y1 y2, LeO (etag_may.l0 k y0 y1 y2) (etag_may.l0 (k + 1) y0 y1 y2))
 | 0 => fun _ _ _ r h => by simp [etag_may.l0] at h
 | k + 1 => by
  have ih0 := etag_may.mono_l k
  ·intro y0 y1 y2
   unfold etag_may.l0
   repeat' first
   | (with_reducible exact ih0 _ _ _)
   | (with_reducible exact LeO.refl _)
   | (with_reducible exact LeO.none _)
   | (with_reducible refine LeO.ite ?_ ?_)
   | (with_reducible refine LeO.bind ?_ (fun _ => ?_))
   | exact ih0 _ _ _
   | exact LeO.none _
   | refine LeO.ite ?_ ?_
   | refine LeO.bind ?_ (fun _ => ?_)
theorem etag_may.mono : ∀ a0 k, LeO (etag_may.f k a0) (etag_may.f (k + 1) a0) := by
 intro a0 k;have ih0 := etag_may.mono_l k
 unfold etag_may.f
 repeat' first
   | (with_reducible exact ih0 _ _ _)
   | (with_reducible exact LeO.refl _)
   | (with_reducible exact LeO.none _)
   | (with_reducible refine LeO.ite ?_ ?_)
   | (with_reducible refine LeO.bind ?_ (fun _ => ?_))
   | exact ih0 _ _ _
   | exact LeO.none _
   | refine LeO.ite ?_ ?_
   | refine LeO.bind ?_ (fun _ => ?_)
set_option maxHeartbeats 2000000 in
set_option maxRecDepth 100000 in
theorem etag_may.calls (k : Nat) (a0 : ByteArray) (r : Bool) (w : World) (h : etag_may.f k a0 = some r) :
  Calls Tryz.prog 32 #[.string a0] w fun e w' => e = .returned (.bool r) ∧ Drawn0 w w' := by
 have H : (etag_may.l0 k a0 (a0.size : Int) 0) = some r := h;clear h;have H' := Aside0.mk H;clear H;go_enter Tryz.func32, Tryz.ntmps32;go_wp2;go_loopg [6] k (fun kq v6 w' => ∃ (x6_1 : Int), v6 = .int .i64 x6_1 ∧ Aside0 (etag_may.l0 kq a0 (a0.size : Int) x6_1 = some r) ∧ Aside0 (kq ≤ k) ∧ Drawn0 w w')
 case atStart => exact ⟨(0), (by first | rfl | (simp; done) | (simp [*]; done)), H', ⟨Nat.le_refl _⟩, by repeat (first | exact Drawn0.refl _ | apply Drawn0.step)⟩
 case round =>
  clear H';obtain ⟨x6_1, rfl, HA, HK1, ⟨m1, rfl⟩⟩ := hrel
  cases gk with
  | zero => exact absurd HA.out (by simp [etag_may.l0])
  | succ k1 =>
   have H := HA.out;clear HA;simp only [etag_may.l0] at H
   by_cases c2 : x6_1 < (a0.size : Int)
   ·rw [if_pos c2] at H
    have c2b0 : decide (x6_1 < (a0.size : Int)) = true := decide_eq_true c2;clear c2
    by_cases c3 : 0 ≤ x6_1
    ·rw [if_pos c3] at H
     have c3b0 : decide (0 ≤ x6_1) = true := decide_eq_true c3;clear c3
     by_cases c4 : x6_1 < (a0.size : Int)
     ·rw [if_pos c4] at H
      have c4b0 : decide (x6_1 < (a0.size : Int)) = true := decide_eq_true c4;clear c4
      by_cases c6 : (bt a0 x6_1) < 33
      ·rw [if_pos c6] at H;have c6b0 : decide ((bt a0 x6_1) < 33) = true := decide_eq_true c6;clear c6;obtain rfl := Option.some.inj H;have p5 : 0 ≤ (x6_1 : Int) := of_decide_eq_true (by first | (with_reducible assumption) | assumption);have q5 : x6_1 < (a0.size : Int) := of_decide_eq_true (by first | (with_reducible assumption) | assumption);have hx5 := bt_at a0 x6_1;replace p5 := eq_true p5;replace q5 := eq_true q5;go_wp2;go_ret;exact ⟨by first | rfl | (simp; done) | (simp [*]; done), by repeat (first | exact Drawn0.refl _ | apply Drawn0.step)⟩
      ·rw [if_neg c6] at H
       have c6b0 : decide ((bt a0 x6_1) < 33) = false := decide_eq_false c6;clear c6
       by_cases c8 : (bt a0 x6_1) = 34
       ·rw [if_pos c8] at H;have c8b0 : ((bt a0 x6_1) == 34) = true := beq_iff_eq.mpr c8;have c8b1 : ((bt a0 x6_1) != 34) = false := bne_eq_false_iff_eq.mpr c8;clear c8;obtain rfl := Option.some.inj H;have p5 : 0 ≤ (x6_1 : Int) := of_decide_eq_true (by first | (with_reducible assumption) | assumption);have q5 : x6_1 < (a0.size : Int) := of_decide_eq_true (by first | (with_reducible assumption) | assumption);have hx5 := bt_at a0 x6_1;replace p5 := eq_true p5;replace q5 := eq_true q5;have p7 : 0 ≤ (x6_1 : Int) := of_decide_eq_true (by first | (with_reducible assumption) | assumption);have q7 : x6_1 < (a0.size : Int) := of_decide_eq_true (by first | (with_reducible assumption) | assumption);have hx7 := bt_at a0 x6_1;replace p7 := eq_true p7;replace q7 := eq_true q7;go_wp2;go_ret;exact ⟨by first | rfl | (simp; done) | (simp [*]; done), by repeat (first | exact Drawn0.refl _ | apply Drawn0.step)⟩
       ·rw [if_neg c8] at H
        have c8b0 : ((bt a0 x6_1) == 34) = false := beq_eq_false_iff_ne.mpr c8;have c8b1 : ((bt a0 x6_1) != 34) = true := bne_iff_ne.mpr c8
        by_cases c10 : (bt a0 x6_1) = 127
        ·rw [if_pos c10] at H;have c10b0 : ((bt a0 x6_1) == 127) = true := beq_iff_eq.mpr c10;have c10b1 : ((bt a0 x6_1) != 127) = false := bne_eq_false_iff_eq.mpr c10;clear c10;obtain rfl := Option.some.inj H;have p5 : 0 ≤ (x6_1 : Int) := of_decide_eq_true (by first | (with_reducible assumption) | assumption);have q5 : x6_1 < (a0.size : Int) := of_decide_eq_true (by first | (with_reducible assumption) | assumption);have hx5 := bt_at a0 x6_1;replace p5 := eq_true p5;replace q5 := eq_true q5;have p7 : 0 ≤ (x6_1 : Int) := of_decide_eq_true (by first | (with_reducible assumption) | assumption);have q7 : x6_1 < (a0.size : Int) := of_decide_eq_true (by first | (with_reducible assumption) | assumption);have hx7 := bt_at a0 x6_1;replace p7 := eq_true p7;replace q7 := eq_true q7;have p9 : 0 ≤ (x6_1 : Int) := of_decide_eq_true (by first | (with_reducible assumption) | assumption);have q9 : x6_1 < (a0.size : Int) := of_decide_eq_true (by first | (with_reducible assumption) | assumption);have hx9 := bt_at a0 x6_1;replace p9 := eq_true p9;replace q9 := eq_true q9;go_wp2;go_ret;exact ⟨by first | rfl | (simp; done) | (simp [*]; done), by repeat (first | exact Drawn0.refl _ | apply Drawn0.step)⟩
        ·rw [if_neg c10] at H
         have c10b0 : ((bt a0 x6_1) == 127) = false := beq_eq_false_iff_ne.mpr c10;have c10b1 : ((bt a0 x6_1) != 127) = true := bne_iff_ne.mpr c10;have H' := Aside0.mk H;clear H;have p5 : 0 ≤ (x6_1 : Int) := of_decide_eq_true (by first | (with_reducible assumption) | assumption);have q5 : x6_1 < (a0.size : Int) := of_decide_eq_true (by first | (with_reducible assumption) | assumption);have hx5 := bt_at a0 x6_1;replace p5 := eq_true p5;replace q5 := eq_true q5;have p7 : 0 ≤ (x6_1 : Int) := of_decide_eq_true (by first | (with_reducible assumption) | assumption);have q7 : x6_1 < (a0.size : Int) := of_decide_eq_true (by first | (with_reducible assumption) | assumption);have hx7 := bt_at a0 x6_1;replace p7 := eq_true p7;replace q7 := eq_true q7;have p9 : 0 ≤ (x6_1 : Int) := of_decide_eq_true (by first | (with_reducible assumption) | assumption);have q9 : x6_1 < (a0.size : Int) := of_decide_eq_true (by first | (with_reducible assumption) | assumption);have hx9 := bt_at a0 x6_1;replace p9 := eq_true p9;replace q9 := eq_true q9;go_wp2;go_roundg k1
         case measure => have := HK1.out; omega
         case rel => exact ⟨(wrap64 (x6_1 + 1)), (by first | rfl | (simp; done) | (simp [*]; done)), H', ⟨by have := HK1.out; omega⟩, by repeat (first | exact Drawn0.refl _ | apply Drawn0.step)⟩
     ·rw [if_neg c4] at H;exact absurd H (by simp)
    ·rw [if_neg c3] at H;exact absurd H (by simp)
   ·rw [if_neg c2] at H;have c2b0 : decide (x6_1 < (a0.size : Int)) = false := decide_eq_false c2;clear c2;obtain rfl := Option.some.inj H;go_wp2;go_ret;exact ⟨by first | rfl | (simp; done) | (simp [*]; done), by repeat (first | exact Drawn0.refl _ | apply Drawn0.step)⟩
/-! ### etag_Parse: function 17 -/
def etag_Parse.f (k : Nat) (a0 : ByteArray) : Option (Bool × ByteArray × Bool) := if (a0.size : Int) > 4000 then (some (false, (⟨#[]⟩ : ByteArray), false)) else ((strings_CutPrefix.f a0 (⟨#[87, 47]⟩ : ByteArray)).bind fun bt129 => (if (bt129.1.size : Int) < 2 then (some (false, (⟨#[]⟩ : ByteArray), false)) else (if 0 < (bt129.1.size : Int) then (if (bt bt129.1 0) = 34 then (if 0 ≤ (wrap64 ((bt129.1.size : Int) - 1)) then (if (wrap64 ((bt129.1.size : Int) - 1)) < (bt129.1.size : Int) then (if (bt bt129.1 (wrap64 ((bt129.1.size : Int) - 1))) = 34 then (if 1 ≤ (wrap64 ((bt129.1.size : Int) - 1)) then (if (wrap64 ((bt129.1.size : Int) - 1)) ≤ (bt129.1.size : Int) then ((etag_may.f k (bt129.1.extract 1 ((wrap64 ((bt129.1.size : Int) - 1)) : Int).toNat)).bind fun t131 => (if t131 = true then (some (bt129.2, bt129.1.extract 1 ((wrap64 ((bt129.1.size : Int) - 1)) : Int).toNat, true)) else (some (false, (⟨#[]⟩ : ByteArray), false)))) else (none)) else (none)) else (some (false, (⟨#[]⟩ : ByteArray), false))) else (none)) else (none)) else (some (false, (⟨#[]⟩ : ByteArray), false))) else (none))))
theorem etag_Parse.mono : ∀ a0 k, LeO (etag_Parse.f k a0) (etag_Parse.f (k + 1) a0) := by
 intro a0 k
 unfold etag_Parse.f
 repeat' first
   | (with_reducible exact etag_may.mono _ _)
   | (with_reducible exact LeO.refl _)
   | (with_reducible exact LeO.none _)
   | (with_reducible refine LeO.ite ?_ ?_)
   | (with_reducible refine LeO.bind ?_ (fun _ => ?_))
   | exact etag_may.mono _ _
   | exact LeO.none _
   | refine LeO.ite ?_ ?_
   | refine LeO.bind ?_ (fun _ => ?_)
set_option maxHeartbeats 2000000 in
set_option maxRecDepth 100000 in
theorem etag_Parse.calls (k : Nat) (a0 : ByteArray) (r1 : Bool) (r2 : ByteArray) (r3 : Bool) (w : World) (h : etag_Parse.f k a0 = some (r1, r2, r3)) :
  Calls Tryz.prog 17 #[.string a0] w fun e w' => e = .returned (.tuple #[.agg #[.bool r1, .string r2], .bool r3]) ∧ Below w.heap.size w w' := by
 have hu29 := Tryz.underlying29;have HB := Aside0.mk (Below.refl w.heap.size w);have H : (if (a0.size : Int) > 4000 then (some (false, (⟨#[]⟩ : ByteArray), false)) else ((strings_CutPrefix.f a0 (⟨#[87, 47]⟩ : ByteArray)).bind fun bt129 => (if (bt129.1.size : Int) < 2 then (some (false, (⟨#[]⟩ : ByteArray), false)) else (if 0 < (bt129.1.size : Int) then (if (bt bt129.1 0) = 34 then (if 0 ≤ (wrap64 ((bt129.1.size : Int) - 1)) then (if (wrap64 ((bt129.1.size : Int) - 1)) < (bt129.1.size : Int) then (if (bt bt129.1 (wrap64 ((bt129.1.size : Int) - 1))) = 34 then (if 1 ≤ (wrap64 ((bt129.1.size : Int) - 1)) then (if (wrap64 ((bt129.1.size : Int) - 1)) ≤ (bt129.1.size : Int) then ((etag_may.f k (bt129.1.extract 1 ((wrap64 ((bt129.1.size : Int) - 1)) : Int).toNat)).bind fun t131 => (if t131 = true then (some (bt129.2, bt129.1.extract 1 ((wrap64 ((bt129.1.size : Int) - 1)) : Int).toNat, true)) else (some (false, (⟨#[]⟩ : ByteArray), false)))) else (none)) else (none)) else (some (false, (⟨#[]⟩ : ByteArray), false))) else (none)) else (none)) else (some (false, (⟨#[]⟩ : ByteArray), false))) else (none))))) = some (r1, r2, r3) := h;clear h
 by_cases c2 : (a0.size : Int) > 4000
 ·rw [if_pos c2] at H;have c2b0 : decide (4000 < (a0.size : Int)) = true := decide_eq_true c2;have c2b1 : decide (4000 < a0.size) = true := decide_eq_true (by omega);clear c2;simp only [Option.some.injEq, Prod.mk.injEq] at H;obtain ⟨rfl, rfl, rfl⟩ := H;go_enter Tryz.func17, Tryz.ntmps17;go_wp2_with (first | ((with_reducible refine gate_dst (N:=2) rfl ?_); (try (refine gate_guard (by rfl) ?_; dsimp only)); refine box_event ?hg (N:=2) ?hd (cs := #[.bool false, .string (⟨#[]⟩ : ByteArray)]) (t:=29) ?hr ?_; (case hd => rfl); (case hg => rfl); (case hr => first | (go_simp; done) | (go_simp; rfl)); intro gb128 hg w3 hbox hb; have n0_ := Aside0.mk (below_step (hA HB.out) hb); have n1_ := Aside0.mk (hbox); have n2_ := Aside0.mk ((by rw [hg]; exact (below_size (hA HB.out)) : w.heap.size ≤ gb128)); have n3_ := Aside0.mk ((by rw [hg]; exact (below_size (hA HB.out)) : w.heap.size ≤ gb128)); clear HB; have HB := n0_; have BK128 := n1_; have GW128 := n2_; have GE128 := n3_; clear n0_ n1_ n2_ n3_; clear hb hbox hg; have hcz4_0 := bC BK128.out 0 rfl; have hcz4_1 := bC BK128.out 1 rfl; have hfz4_0 := blk_frozen BK128.out 0; have hfz4_1 := blk_frozen BK128.out 1));refine bodyPost_ret (results_ct rfl _ _ gb128 29 #[.bool false, .string (⟨#[]⟩ : ByteArray)] (0, 0) _ rfl (by (with_reducible repeat (first | refine blk_drewN ?_ _ | refine blk_drew ?_ | refine blk_alloc ?_ _)); refine blk_put (cs := #[.bool false, .string (⟨#[]⟩ : ByteArray)]) ?_ 1 _ rfl; (with_reducible repeat (first | refine blk_drewN ?_ _ | refine blk_drew ?_ | refine blk_alloc ?_ _)); refine blk_put (cs := #[.bool false, .string (⟨#[]⟩ : ByteArray)]) ?_ 0 _ rfl; (with_reducible repeat (first | refine blk_drewN ?_ _ | refine blk_drew ?_ | refine blk_alloc ?_ _)); exact BK128.out) Tryz.underlying29 rfl (by kernel_rfl)) rfl ?_;exact ⟨by first | rfl | (simp [errW_none, errW_some] <;> rfl) | (simp [*, errW_none, errW_some] <;> rfl), by repeat (first | (with_reducible first | exact HB.out | apply below_alloc | apply pw_below_drewN | apply below_drew1 | refine below_set ?_ GE128.out) | exact HB.out)⟩
 ·rw [if_neg c2] at H
  have c2b0 : decide (4000 < (a0.size : Int)) = false := decide_eq_false c2;have c2b1 : decide (4000 < a0.size) = false := decide_eq_false (by omega);clear c2;replace H := Option.bind_eq_some_iff.mp H;obtain ⟨⟨t129, t130⟩, A50, H⟩ := H;replace H : (if (t129.size : Int) < 2 then (some (false, (⟨#[]⟩ : ByteArray), false)) else (if 0 < (t129.size : Int) then (if (bt t129 0) = 34 then (if 0 ≤ (wrap64 ((t129.size : Int) - 1)) then (if (wrap64 ((t129.size : Int) - 1)) < (t129.size : Int) then (if (bt t129 (wrap64 ((t129.size : Int) - 1))) = 34 then (if 1 ≤ (wrap64 ((t129.size : Int) - 1)) then (if (wrap64 ((t129.size : Int) - 1)) ≤ (t129.size : Int) then ((etag_may.f k (t129.extract 1 ((wrap64 ((t129.size : Int) - 1)) : Int).toNat)).bind fun t131 => (if t131 = true then (some (t130, t129.extract 1 ((wrap64 ((t129.size : Int) - 1)) : Int).toNat, true)) else (some (false, (⟨#[]⟩ : ByteArray), false)))) else (none)) else (none)) else (some (false, (⟨#[]⟩ : ByteArray), false))) else (none)) else (none)) else (some (false, (⟨#[]⟩ : ByteArray), false))) else (none))) = some (r1, r2, r3) := H;have A5 := Aside0.mk A50;clear A50
  by_cases c6 : (t129.size : Int) < 2
  ·rw [if_pos c6] at H;have c6b0 : decide ((t129.size : Int) < 2) = true := decide_eq_true c6;have c6b1 : decide (t129.size < 2) = true := decide_eq_true (by omega);clear c6;simp only [Option.some.injEq, Prod.mk.injEq] at H;obtain ⟨rfl, rfl, rfl⟩ := H;go_enter Tryz.func17, Tryz.ntmps17;go_wp2_with (first | ((with_reducible refine gate_dst (N:=2) rfl ?_); (try (refine gate_guard (by rfl) ?_; dsimp only)); refine box_event ?hg (N:=2) ?hd (cs := #[.bool false, .string (⟨#[]⟩ : ByteArray)]) (t:=29) ?hr ?_; (case hd => rfl); (case hg => rfl); (case hr => first | (go_simp; done) | (go_simp; rfl)); intro gb128 hg w7 hbox hb; have n0_ := Aside0.mk (below_step (hA HB.out) hb); have n1_ := Aside0.mk (hbox); have n2_ := Aside0.mk ((by rw [hg]; exact (below_size (hA HB.out)) : w.heap.size ≤ gb128)); have n3_ := Aside0.mk ((by rw [hg]; exact (below_size (hA HB.out)) : w.heap.size ≤ gb128)); clear HB; have HB := n0_; have BK128 := n1_; have GW128 := n2_; have GE128 := n3_; clear n0_ n1_ n2_ n3_; clear hb hbox hg) | ((with_reducible refine gate_callee (f:=31) rfl ?_); refine goesL_ (some 12) rfl rfl Tryz.func31 (by kernel_rfl) rfl #[.string a0, .string (⟨#[87, 47]⟩ : ByteArray)] rfl (by (try simp only [List.map_toArray, List.map_cons, List.map_nil]); first | done | rfl | (simp only [List.length_drop, List.length_take]; rfl)) ?_; (with_reducible refine (strings_CutPrefix.calls a0 (⟨#[87, 47]⟩ : ByteArray) t129 t130 _ A5.out).mono ?_); rintro e w' ⟨rfl, ⟨nd, rfl⟩⟩; refine ⟨_, rfl, ?_⟩; (try (rw [drewN_self w7]; generalize hq_ : World.drewN w7 _ = w7; have n0_ : Aside0 (w7.heap[gb128]? = some (.cells #[.bool false, .string (⟨#[]⟩ : ByteArray)] 29 (0, 0))) := ⟨by rw [← hq_]; exact (bA BK128.out)⟩; have n1_ : Aside0 (Below w.heap.size w w7) := ⟨by rw [← hq_]; exact (hA1 HB.out GE128.out)⟩; clear BK128 HB hq_; have BK128 := n0_; have HB := n1_; clear n0_ n1_)); have hcz8_0 := bC BK128.out 0 rfl; have hcz8_1 := bC BK128.out 1 rfl; have hfz8_0 := blk_frozen BK128.out 0; have hfz8_1 := blk_frozen BK128.out 1));refine bodyPost_ret (results_ct rfl _ _ gb128 29 #[.bool false, .string (⟨#[]⟩ : ByteArray)] (0, 0) _ rfl (by (with_reducible repeat (first | refine blk_drewN ?_ _ | refine blk_drew ?_ | refine blk_alloc ?_ _)); refine blk_put (cs := #[.bool false, .string (⟨#[]⟩ : ByteArray)]) ?_ 1 _ rfl; (with_reducible repeat (first | refine blk_drewN ?_ _ | refine blk_drew ?_ | refine blk_alloc ?_ _)); refine blk_put (cs := #[.bool false, .string (⟨#[]⟩ : ByteArray)]) ?_ 0 _ rfl; (with_reducible repeat (first | refine blk_drewN ?_ _ | refine blk_drew ?_ | refine blk_alloc ?_ _)); exact BK128.out) Tryz.underlying29 rfl (by kernel_rfl)) rfl ?_;exact ⟨by first | rfl | (simp [errW_none, errW_some] <;> rfl) | (simp [*, errW_none, errW_some] <;> rfl), by repeat (first | (with_reducible first | exact HB.out | apply below_alloc | apply pw_below_drewN | apply below_drew1 | refine below_set ?_ GE128.out) | exact HB.out)⟩
  ·rw [if_neg c6] at H
   have c6b0 : decide ((t129.size : Int) < 2) = false := decide_eq_false c6;have c6b1 : decide (t129.size < 2) = false := decide_eq_false (by omega);clear c6
   by_cases c9 : 0 < (t129.size : Int)
   ·rw [if_pos c9] at H
    have c9b0 : decide (0 < (t129.size : Int)) = true := decide_eq_true c9;have c9b1 : decide (0 < t129.size) = true := decide_eq_true (by omega);clear c9
    by_cases c11 : (bt t129 0) = 34
    ·rw [if_pos c11] at H
     have c11b0 : ((bt t129 0) == 34) = true := beq_iff_eq.mpr c11;have c11b1 : ((bt t129 0) != 34) = false := bne_eq_false_iff_eq.mpr c11;clear c11;obtain ⟨ji12, hji12⟩ : ∃ j_ : Int, (wrap64 ((t129.size : Int) - 1)) = j_ := ⟨_, rfl⟩;(replace H : (if 0 ≤ (ji12) then (if (ji12) < (t129.size : Int) then (if (bt t129 (ji12)) = 34 then (if 1 ≤ (ji12) then (if (ji12) ≤ (t129.size : Int) then ((etag_may.f k (t129.extract 1 ((ji12) : Int).toNat)).bind fun t131 => (if t131 = true then (some (t130, t129.extract 1 ((ji12) : Int).toNat, true)) else (some (false, (⟨#[]⟩ : ByteArray), false)))) else (none)) else (none)) else (some (false, (⟨#[]⟩ : ByteArray), false))) else (none)) else (none)) = some (r1, r2, r3) := by first | (rw [hji12] at H; exact H) | (simp only [hji12] at H ⊢; exact H))
     (try rw [hji12] at A5)
     have hji12w : (IntKind.i64.wrap ((t129.size : Int) - 1)) = ji12 := (i64_w _).trans hji12
     by_cases c13 : 0 ≤ (ji12)
     ·rw [if_pos c13] at H
      have c13b0 : decide (0 ≤ (ji12)) = true := decide_eq_true c13;clear c13
      by_cases c14 : (ji12) < (t129.size : Int)
      ·rw [if_pos c14] at H
       have c14b0 : decide ((ji12) < (t129.size : Int)) = true := decide_eq_true c14;clear c14
       by_cases c16 : (bt t129 (ji12)) = 34
       ·rw [if_pos c16] at H
        have c16b0 : ((bt t129 (ji12)) == 34) = true := beq_iff_eq.mpr c16;have c16b1 : ((bt t129 (ji12)) != 34) = false := bne_eq_false_iff_eq.mpr c16;clear c16
        by_cases c17 : 1 ≤ (ji12)
        ·rw [if_pos c17] at H
         have c17b0 := eq_true c17;have c17b1 : decide (1 ≤ (ji12)) = true := decide_eq_true c17;clear c17
         by_cases c18 : (ji12) ≤ (t129.size : Int)
         ·rw [if_pos c18] at H
          have c18b0 := eq_true c18;have c18b1 : decide ((ji12) ≤ (t129.size : Int)) = true := decide_eq_true c18;clear c18;replace H := Option.bind_eq_some_iff.mp H;obtain ⟨t131, A190, H⟩ := H;replace H : (if t131 = true then (some (t130, t129.extract 1 ((ji12) : Int).toNat, true)) else (some (false, (⟨#[]⟩ : ByteArray), false))) = some (r1, r2, r3) := H;have A19 := Aside0.mk A190;clear A190
          by_cases c20 : t131 = true
          ·subst c20
           (have H1 : (some (t130, t129.extract 1 ((ji12) : Int).toNat, true)) = some (r1, r2, r3) := by rw [if_pos rfl] at H; exact H);clear H;have H := H1;clear H1;have c21b0 := eq_true (of_decide_eq_true (by first | (with_reducible assumption) | assumption) : 1 ≤ (ji12));have c22b0 := eq_true (of_decide_eq_true (by first | (with_reducible assumption) | assumption) : (ji12) ≤ (t129.size : Int));simp only [Option.some.injEq, Prod.mk.injEq] at H;obtain ⟨rfl, rfl, rfl⟩ := H
           (try (have e_c11b0 := c11b0; simp only [c2b0, c6b0, c9b0, c13b0, c14b0, c16b0] at e_c11b0; simp at e_c11b0))
           (try (have e_c16b0 := c16b0; simp only [c2b0, c6b0, c9b0, c11b0, c13b0, c14b0] at e_c16b0; simp at e_c16b0))
           go_enter Tryz.func17, Tryz.ntmps17;go_wp2_with (first | ((with_reducible refine gate_dst (N:=2) rfl ?_); (try (refine gate_guard (by rfl) ?_; dsimp only)); refine box_event ?hg (N:=2) ?hd (cs := #[.bool false, .string (⟨#[]⟩ : ByteArray)]) (t:=29) ?hr ?_; (case hd => rfl); (case hg => rfl); (case hr => first | (go_simp; done) | (go_simp; rfl)); intro gb128 hg w23 hbox hb; have n0_ := Aside0.mk (below_step (hA HB.out) hb); have n1_ := Aside0.mk (hbox); have n2_ := Aside0.mk ((by rw [hg]; exact (below_size (hA HB.out)) : w.heap.size ≤ gb128)); have n3_ := Aside0.mk ((by rw [hg]; exact (below_size (hA HB.out)) : w.heap.size ≤ gb128)); clear HB; have HB := n0_; have BK128 := n1_; have GW128 := n2_; have GE128 := n3_; clear n0_ n1_ n2_ n3_; clear hb hbox hg) | ((with_reducible refine gate_callee (f:=31) rfl ?_); refine goesL_ (some 12) rfl rfl Tryz.func31 (by kernel_rfl) rfl #[.string a0, .string (⟨#[87, 47]⟩ : ByteArray)] rfl (by (try simp only [List.map_toArray, List.map_cons, List.map_nil]); first | done | rfl | (simp only [List.length_drop, List.length_take]; rfl)) ?_; (with_reducible refine (strings_CutPrefix.calls a0 (⟨#[87, 47]⟩ : ByteArray) t129 t130 _ A5.out).mono ?_); rintro e w' ⟨rfl, ⟨nd, rfl⟩⟩; refine ⟨_, rfl, ?_⟩; (try (rw [drewN_self w23]; generalize hq_ : World.drewN w23 _ = w23; have n0_ : Aside0 (w23.heap[gb128]? = some (.cells #[.bool false, .string (⟨#[]⟩ : ByteArray)] 29 (0, 0))) := ⟨by rw [← hq_]; exact (bA BK128.out)⟩; have n1_ : Aside0 (Below w.heap.size w w23) := ⟨by rw [← hq_]; exact (hA1 HB.out GE128.out)⟩; clear BK128 HB hq_; have BK128 := n0_; have HB := n1_; clear n0_ n1_)); have p10 : 0 ≤ (0 : Int) := (by omega); have q10 : 0 < t129.size := (by have : (0 : Int) < (t129.size : Int) := of_decide_eq_true (by first | (with_reducible assumption) | assumption); omega); have hx10 : ∀ h : 0 < t129.size, ((t129[0]'h).toNat : Int) = bt t129 0 := bt_at t129 0; clear p10; have qi10 : (0 < (t129.size : Int)) = True := eq_true (of_decide_eq_true (by first | (with_reducible assumption) | assumption)); replace q10 := eq_true q10; have p15 : 0 ≤ ((ji12) : Int) := of_decide_eq_true (by first | (with_reducible assumption) | assumption); have q15 : (ji12) < (t129.size : Int) := of_decide_eq_true (by first | (with_reducible assumption) | assumption); have hx15 := bt_at t129 (ji12); replace p15 := eq_true p15; replace q15 := eq_true q15) | (go_at_call 32; (with_reducible refine (etag_may.calls k (t129.extract 1 ((ji12) : Int).toNat) true _ A19.out).mono ?_); rintro e w' ⟨rfl, ⟨nd, rfl⟩⟩; (try (rw [drewN_self w23]; generalize hq_ : World.drewN w23 _ = w23; have n0_ : Aside0 (w23.heap[gb128]? = some (.cells #[.bool false, .string (⟨#[]⟩ : ByteArray)] 29 (0, 0))) := ⟨by rw [← hq_]; exact (bA BK128.out)⟩; have n1_ : Aside0 (Below w.heap.size w w23) := ⟨by rw [← hq_]; exact (hA1 HB.out GE128.out)⟩; clear BK128 HB hq_; have BK128 := n0_; have HB := n1_; clear n0_ n1_)); have hcz24_0 := bC BK128.out 0 rfl; have hcz24_1 := bC BK128.out 1 rfl; have hfz24_0 := blk_frozen BK128.out 0; have hfz24_1 := blk_frozen BK128.out 1));refine bodyPost_ret (results_ct rfl _ _ gb128 29 #[.bool t130, .string (t129.extract 1 ((ji12) : Int).toNat)] (0, 0) _ rfl (by (with_reducible repeat (first | refine blk_drewN ?_ _ | refine blk_drew ?_ | refine blk_alloc ?_ _)); refine blk_put (cs := #[.bool t130, .string (⟨#[]⟩ : ByteArray)]) ?_ 1 _ rfl; (with_reducible repeat (first | refine blk_drewN ?_ _ | refine blk_drew ?_ | refine blk_alloc ?_ _)); refine blk_put (cs := #[.bool false, .string (⟨#[]⟩ : ByteArray)]) ?_ 0 _ rfl; (with_reducible repeat (first | refine blk_drewN ?_ _ | refine blk_drew ?_ | refine blk_alloc ?_ _)); exact BK128.out) Tryz.underlying29 rfl (by kernel_rfl)) rfl ?_;exact ⟨by first | rfl | (simp [errW_none, errW_some] <;> rfl) | (simp only [← hji12]; first | rfl | (simp [errW_none, errW_some] <;> rfl)) | (simp [*, errW_none, errW_some] <;> rfl), by repeat (first | (with_reducible first | exact HB.out | apply below_alloc | apply pw_below_drewN | apply below_drew1 | refine below_set ?_ GE128.out) | exact HB.out)⟩
          ·replace c20 := Bool.eq_false_iff.mpr c20
           subst c20;(have H1 : (some (false, (⟨#[]⟩ : ByteArray), false)) = some (r1, r2, r3) := by rw [if_neg (show ¬ (false = true) by decide)] at H; exact H);clear H;have H := H1;clear H1;simp only [Option.some.injEq, Prod.mk.injEq] at H;obtain ⟨rfl, rfl, rfl⟩ := H
           (try (have e_c11b0 := c11b0; simp only [c2b0, c6b0, c9b0, c13b0, c14b0, c16b0] at e_c11b0; simp at e_c11b0))
           (try (have e_c16b0 := c16b0; simp only [c2b0, c6b0, c9b0, c11b0, c13b0, c14b0] at e_c16b0; simp at e_c16b0))
           go_enter Tryz.func17, Tryz.ntmps17;go_wp2_with (first | ((with_reducible refine gate_dst (N:=2) rfl ?_); (try (refine gate_guard (by rfl) ?_; dsimp only)); refine box_event ?hg (N:=2) ?hd (cs := #[.bool false, .string (⟨#[]⟩ : ByteArray)]) (t:=29) ?hr ?_; (case hd => rfl); (case hg => rfl); (case hr => first | (go_simp; done) | (go_simp; rfl)); intro gb128 hg w25 hbox hb; have n0_ := Aside0.mk (below_step (hA HB.out) hb); have n1_ := Aside0.mk (hbox); have n2_ := Aside0.mk ((by rw [hg]; exact (below_size (hA HB.out)) : w.heap.size ≤ gb128)); have n3_ := Aside0.mk ((by rw [hg]; exact (below_size (hA HB.out)) : w.heap.size ≤ gb128)); clear HB; have HB := n0_; have BK128 := n1_; have GW128 := n2_; have GE128 := n3_; clear n0_ n1_ n2_ n3_; clear hb hbox hg) | ((with_reducible refine gate_callee (f:=31) rfl ?_); refine goesL_ (some 12) rfl rfl Tryz.func31 (by kernel_rfl) rfl #[.string a0, .string (⟨#[87, 47]⟩ : ByteArray)] rfl (by (try simp only [List.map_toArray, List.map_cons, List.map_nil]); first | done | rfl | (simp only [List.length_drop, List.length_take]; rfl)) ?_; (with_reducible refine (strings_CutPrefix.calls a0 (⟨#[87, 47]⟩ : ByteArray) t129 t130 _ A5.out).mono ?_); rintro e w' ⟨rfl, ⟨nd, rfl⟩⟩; refine ⟨_, rfl, ?_⟩; (try (rw [drewN_self w25]; generalize hq_ : World.drewN w25 _ = w25; have n0_ : Aside0 (w25.heap[gb128]? = some (.cells #[.bool false, .string (⟨#[]⟩ : ByteArray)] 29 (0, 0))) := ⟨by rw [← hq_]; exact (bA BK128.out)⟩; have n1_ : Aside0 (Below w.heap.size w w25) := ⟨by rw [← hq_]; exact (hA1 HB.out GE128.out)⟩; clear BK128 HB hq_; have BK128 := n0_; have HB := n1_; clear n0_ n1_)); have p10 : 0 ≤ (0 : Int) := (by omega); have q10 : 0 < t129.size := (by have : (0 : Int) < (t129.size : Int) := of_decide_eq_true (by first | (with_reducible assumption) | assumption); omega); have hx10 : ∀ h : 0 < t129.size, ((t129[0]'h).toNat : Int) = bt t129 0 := bt_at t129 0; clear p10; have qi10 : (0 < (t129.size : Int)) = True := eq_true (of_decide_eq_true (by first | (with_reducible assumption) | assumption)); replace q10 := eq_true q10; have p15 : 0 ≤ ((ji12) : Int) := of_decide_eq_true (by first | (with_reducible assumption) | assumption); have q15 : (ji12) < (t129.size : Int) := of_decide_eq_true (by first | (with_reducible assumption) | assumption); have hx15 := bt_at t129 (ji12); replace p15 := eq_true p15; replace q15 := eq_true q15) | (go_at_call 32; (with_reducible refine (etag_may.calls k (t129.extract 1 ((ji12) : Int).toNat) false _ A19.out).mono ?_); rintro e w' ⟨rfl, ⟨nd, rfl⟩⟩; (try (rw [drewN_self w25]; generalize hq_ : World.drewN w25 _ = w25; have n0_ : Aside0 (w25.heap[gb128]? = some (.cells #[.bool false, .string (⟨#[]⟩ : ByteArray)] 29 (0, 0))) := ⟨by rw [← hq_]; exact (bA BK128.out)⟩; have n1_ : Aside0 (Below w.heap.size w w25) := ⟨by rw [← hq_]; exact (hA1 HB.out GE128.out)⟩; clear BK128 HB hq_; have BK128 := n0_; have HB := n1_; clear n0_ n1_)); have hcz26_0 := bC BK128.out 0 rfl; have hcz26_1 := bC BK128.out 1 rfl; have hfz26_0 := blk_frozen BK128.out 0; have hfz26_1 := blk_frozen BK128.out 1));refine bodyPost_ret (results_ct rfl _ _ gb128 29 #[.bool false, .string (⟨#[]⟩ : ByteArray)] (0, 0) _ rfl (by (with_reducible repeat (first | refine blk_drewN ?_ _ | refine blk_drew ?_ | refine blk_alloc ?_ _)); refine blk_put (cs := #[.bool false, .string (⟨#[]⟩ : ByteArray)]) ?_ 1 _ rfl; (with_reducible repeat (first | refine blk_drewN ?_ _ | refine blk_drew ?_ | refine blk_alloc ?_ _)); refine blk_put (cs := #[.bool false, .string (⟨#[]⟩ : ByteArray)]) ?_ 0 _ rfl; (with_reducible repeat (first | refine blk_drewN ?_ _ | refine blk_drew ?_ | refine blk_alloc ?_ _)); exact BK128.out) Tryz.underlying29 rfl (by kernel_rfl)) rfl ?_;exact ⟨by first | rfl | (simp [errW_none, errW_some] <;> rfl) | (simp only [← hji12]; first | rfl | (simp [errW_none, errW_some] <;> rfl)) | (simp [*, errW_none, errW_some] <;> rfl), by repeat (first | (with_reducible first | exact HB.out | apply below_alloc | apply pw_below_drewN | apply below_drew1 | refine below_set ?_ GE128.out) | exact HB.out)⟩
         ·rw [if_neg c18] at H;exact absurd H (by simp)
        ·rw [if_neg c17] at H;exact absurd H (by simp)
       ·rw [if_neg c16] at H
        have c16b0 : ((bt t129 (ji12)) == 34) = false := beq_eq_false_iff_ne.mpr c16;have c16b1 : ((bt t129 (ji12)) != 34) = true := bne_iff_ne.mpr c16;simp only [Option.some.injEq, Prod.mk.injEq] at H;obtain ⟨rfl, rfl, rfl⟩ := H
        (try (have e_c11b0 := c11b0; simp only [c2b0, c6b0, c9b0, c13b0, c14b0, c16b0] at e_c11b0; simp at e_c11b0))
        (try (have e_c16b0 := c16b0; simp only [c2b0, c6b0, c9b0, c11b0, c13b0, c14b0] at e_c16b0; simp at e_c16b0))
        go_enter Tryz.func17, Tryz.ntmps17;go_wp2_with (first | ((with_reducible refine gate_dst (N:=2) rfl ?_); (try (refine gate_guard (by rfl) ?_; dsimp only)); refine box_event ?hg (N:=2) ?hd (cs := #[.bool false, .string (⟨#[]⟩ : ByteArray)]) (t:=29) ?hr ?_; (case hd => rfl); (case hg => rfl); (case hr => first | (go_simp; done) | (go_simp; rfl)); intro gb128 hg w27 hbox hb; have n0_ := Aside0.mk (below_step (hA HB.out) hb); have n1_ := Aside0.mk (hbox); have n2_ := Aside0.mk ((by rw [hg]; exact (below_size (hA HB.out)) : w.heap.size ≤ gb128)); have n3_ := Aside0.mk ((by rw [hg]; exact (below_size (hA HB.out)) : w.heap.size ≤ gb128)); clear HB; have HB := n0_; have BK128 := n1_; have GW128 := n2_; have GE128 := n3_; clear n0_ n1_ n2_ n3_; clear hb hbox hg) | ((with_reducible refine gate_callee (f:=31) rfl ?_); refine goesL_ (some 12) rfl rfl Tryz.func31 (by kernel_rfl) rfl #[.string a0, .string (⟨#[87, 47]⟩ : ByteArray)] rfl (by (try simp only [List.map_toArray, List.map_cons, List.map_nil]); first | done | rfl | (simp only [List.length_drop, List.length_take]; rfl)) ?_; (with_reducible refine (strings_CutPrefix.calls a0 (⟨#[87, 47]⟩ : ByteArray) t129 t130 _ A5.out).mono ?_); rintro e w' ⟨rfl, ⟨nd, rfl⟩⟩; refine ⟨_, rfl, ?_⟩; (try (rw [drewN_self w27]; generalize hq_ : World.drewN w27 _ = w27; have n0_ : Aside0 (w27.heap[gb128]? = some (.cells #[.bool false, .string (⟨#[]⟩ : ByteArray)] 29 (0, 0))) := ⟨by rw [← hq_]; exact (bA BK128.out)⟩; have n1_ : Aside0 (Below w.heap.size w w27) := ⟨by rw [← hq_]; exact (hA1 HB.out GE128.out)⟩; clear BK128 HB hq_; have BK128 := n0_; have HB := n1_; clear n0_ n1_)); have p10 : 0 ≤ (0 : Int) := (by omega); have q10 : 0 < t129.size := (by have : (0 : Int) < (t129.size : Int) := of_decide_eq_true (by first | (with_reducible assumption) | assumption); omega); have hx10 : ∀ h : 0 < t129.size, ((t129[0]'h).toNat : Int) = bt t129 0 := bt_at t129 0; clear p10; have qi10 : (0 < (t129.size : Int)) = True := eq_true (of_decide_eq_true (by first | (with_reducible assumption) | assumption)); replace q10 := eq_true q10; have p15 : 0 ≤ ((ji12) : Int) := of_decide_eq_true (by first | (with_reducible assumption) | assumption); have q15 : (ji12) < (t129.size : Int) := of_decide_eq_true (by first | (with_reducible assumption) | assumption); have hx15 := bt_at t129 (ji12); replace p15 := eq_true p15; replace q15 := eq_true q15; have hcz28_0 := bC BK128.out 0 rfl; have hcz28_1 := bC BK128.out 1 rfl; have hfz28_0 := blk_frozen BK128.out 0; have hfz28_1 := blk_frozen BK128.out 1));refine bodyPost_ret (results_ct rfl _ _ gb128 29 #[.bool false, .string (⟨#[]⟩ : ByteArray)] (0, 0) _ rfl (by (with_reducible repeat (first | refine blk_drewN ?_ _ | refine blk_drew ?_ | refine blk_alloc ?_ _)); refine blk_put (cs := #[.bool false, .string (⟨#[]⟩ : ByteArray)]) ?_ 1 _ rfl; (with_reducible repeat (first | refine blk_drewN ?_ _ | refine blk_drew ?_ | refine blk_alloc ?_ _)); refine blk_put (cs := #[.bool false, .string (⟨#[]⟩ : ByteArray)]) ?_ 0 _ rfl; (with_reducible repeat (first | refine blk_drewN ?_ _ | refine blk_drew ?_ | refine blk_alloc ?_ _)); exact BK128.out) Tryz.underlying29 rfl (by kernel_rfl)) rfl ?_;exact ⟨by first | rfl | (simp [errW_none, errW_some] <;> rfl) | (simp only [← hji12]; first | rfl | (simp [errW_none, errW_some] <;> rfl)) | (simp [*, errW_none, errW_some] <;> rfl), by repeat (first | (with_reducible first | exact HB.out | apply below_alloc | apply pw_below_drewN | apply below_drew1 | refine below_set ?_ GE128.out) | exact HB.out)⟩
      ·rw [if_neg c14] at H;exact absurd H (by simp)
     ·rw [if_neg c13] at H;exact absurd H (by simp)
    ·rw [if_neg c11] at H
     have c11b0 : ((bt t129 0) == 34) = false := beq_eq_false_iff_ne.mpr c11;have c11b1 : ((bt t129 0) != 34) = true := bne_iff_ne.mpr c11;simp only [Option.some.injEq, Prod.mk.injEq] at H;obtain ⟨rfl, rfl, rfl⟩ := H
     (try (have e_c11b0 := c11b0; simp only [c2b0, c6b0, c9b0] at e_c11b0; simp at e_c11b0))
     go_enter Tryz.func17, Tryz.ntmps17;go_wp2_with (first | ((with_reducible refine gate_dst (N:=2) rfl ?_); (try (refine gate_guard (by rfl) ?_; dsimp only)); refine box_event ?hg (N:=2) ?hd (cs := #[.bool false, .string (⟨#[]⟩ : ByteArray)]) (t:=29) ?hr ?_; (case hd => rfl); (case hg => rfl); (case hr => first | (go_simp; done) | (go_simp; rfl)); intro gb128 hg w29 hbox hb; have n0_ := Aside0.mk (below_step (hA HB.out) hb); have n1_ := Aside0.mk (hbox); have n2_ := Aside0.mk ((by rw [hg]; exact (below_size (hA HB.out)) : w.heap.size ≤ gb128)); have n3_ := Aside0.mk ((by rw [hg]; exact (below_size (hA HB.out)) : w.heap.size ≤ gb128)); clear HB; have HB := n0_; have BK128 := n1_; have GW128 := n2_; have GE128 := n3_; clear n0_ n1_ n2_ n3_; clear hb hbox hg) | ((with_reducible refine gate_callee (f:=31) rfl ?_); refine goesL_ (some 12) rfl rfl Tryz.func31 (by kernel_rfl) rfl #[.string a0, .string (⟨#[87, 47]⟩ : ByteArray)] rfl (by (try simp only [List.map_toArray, List.map_cons, List.map_nil]); first | done | rfl | (simp only [List.length_drop, List.length_take]; rfl)) ?_; (with_reducible refine (strings_CutPrefix.calls a0 (⟨#[87, 47]⟩ : ByteArray) t129 t130 _ A5.out).mono ?_); rintro e w' ⟨rfl, ⟨nd, rfl⟩⟩; refine ⟨_, rfl, ?_⟩; (try (rw [drewN_self w29]; generalize hq_ : World.drewN w29 _ = w29; have n0_ : Aside0 (w29.heap[gb128]? = some (.cells #[.bool false, .string (⟨#[]⟩ : ByteArray)] 29 (0, 0))) := ⟨by rw [← hq_]; exact (bA BK128.out)⟩; have n1_ : Aside0 (Below w.heap.size w w29) := ⟨by rw [← hq_]; exact (hA1 HB.out GE128.out)⟩; clear BK128 HB hq_; have BK128 := n0_; have HB := n1_; clear n0_ n1_)); have p10 : 0 ≤ (0 : Int) := (by omega); have q10 : 0 < t129.size := (by have : (0 : Int) < (t129.size : Int) := of_decide_eq_true (by first | (with_reducible assumption) | assumption); omega); have hx10 : ∀ h : 0 < t129.size, ((t129[0]'h).toNat : Int) = bt t129 0 := bt_at t129 0; clear p10; have qi10 : (0 < (t129.size : Int)) = True := eq_true (of_decide_eq_true (by first | (with_reducible assumption) | assumption)); replace q10 := eq_true q10; have hcz30_0 := bC BK128.out 0 rfl; have hcz30_1 := bC BK128.out 1 rfl; have hfz30_0 := blk_frozen BK128.out 0; have hfz30_1 := blk_frozen BK128.out 1));refine bodyPost_ret (results_ct rfl _ _ gb128 29 #[.bool false, .string (⟨#[]⟩ : ByteArray)] (0, 0) _ rfl (by (with_reducible repeat (first | refine blk_drewN ?_ _ | refine blk_drew ?_ | refine blk_alloc ?_ _)); refine blk_put (cs := #[.bool false, .string (⟨#[]⟩ : ByteArray)]) ?_ 1 _ rfl; (with_reducible repeat (first | refine blk_drewN ?_ _ | refine blk_drew ?_ | refine blk_alloc ?_ _)); refine blk_put (cs := #[.bool false, .string (⟨#[]⟩ : ByteArray)]) ?_ 0 _ rfl; (with_reducible repeat (first | refine blk_drewN ?_ _ | refine blk_drew ?_ | refine blk_alloc ?_ _)); exact BK128.out) Tryz.underlying29 rfl (by kernel_rfl)) rfl ?_;exact ⟨by first | rfl | (simp [errW_none, errW_some] <;> rfl) | (simp [*, errW_none, errW_some] <;> rfl), by repeat (first | (with_reducible first | exact HB.out | apply below_alloc | apply pw_below_drewN | apply below_drew1 | refine below_set ?_ GE128.out) | exact HB.out)⟩
   ·rw [if_neg c9] at H;exact absurd H (by simp)
/-! ### strings_Split: function 33 -/
/-! #### strings.Split at a separator of one byte: no library variable is read -/
theorem strings_Split.core (s : ByteArray) (c : UInt8) (w : World) (hs : s.size < 4294967281) :
  Calls Tryz.prog 47 #[.string s, .string ⟨#[c]⟩, .int .i64 0, .int .i64 (-1)] w fun e w' =>
   e = .returned (.slice (some ⟨w.heap.size, 0, none⟩) (Lib.countB s ⟨#[c]⟩ + 1) (Lib.countB s ⟨#[c]⟩ + 1)) ∧ w' = w.alloc (.cells ((Lib.splitB ⟨#[c]⟩ 0 (Lib.countB s ⟨#[c]⟩) s).map Value.string).toArray 9) := by
 have h1 : 1 ≤ (⟨#[c]⟩ : ByteArray).size := Nat.le_refl _;have hle := Lib.countB_le ⟨#[c]⟩ h1 s.size s (Nat.le_refl _);have hlen := Lib.splitB_all ⟨#[c]⟩ h1 0 _ s rfl
 have z := Any.strings_genSplit_core (L:={ Tryz.lays146 with }) (by kernel_rfl) s ⟨#[c]⟩ 0 (-1) (Lib.countB s ⟨#[c]⟩ + 1) w hs h1 (Nat.zero_le _)
  (fun x cc _ => (Any.strings_Index_one { Tryz.lays146 with } x c _).mono fun e w' ⟨he, hw⟩ => ⟨by
   rw [he];show _ = Ending.returned (Value.int .i64 (Lib.index x.data.toList [c]))
   rw [Lib.index_one], hw⟩)
  ((Any.strings_Count_one { Tryz.lays146 with } s c w).mono fun e w' ⟨he, hw⟩ => ⟨by
   rw [he];show _ = Ending.returned (Value.int .i64 ((Lib.count s.data.toList [c] : Nat) : Int));rw [Lib.count_one]
   rfl, hw⟩)
  (by decide) (by decide) (by rw [if_pos (by decide)]; omega)
 rw [Nat.add_sub_cancel, hlen] at z;(have e2 : Lib.cellsOf (Lib.splitB ⟨#[c]⟩ 0 (Lib.countB s ⟨#[c]⟩) s) (Lib.countB s ⟨#[c]⟩ + 1) = ((Lib.splitB ⟨#[c]⟩ 0 (Lib.countB s ⟨#[c]⟩) s).map Value.string).toArray := by rw [← hlen]; exact Lib.cellsOf_full _);rw [e2] at z;exact z
set_option maxHeartbeats 2000000 in
theorem strings_Split.one (s : ByteArray) (c : UInt8) (w : World) (hs : s.size < 4294967281) :
  Calls Tryz.prog 33 #[.string s, .string ⟨#[c]⟩] w fun e w' =>
   e = .returned (.slice (some ⟨w.heap.size, 0, none⟩) (Lib.countB s ⟨#[c]⟩ + 1) (Lib.countB s ⟨#[c]⟩ + 1)) ∧ w' = w.alloc (.cells ((Lib.splitB ⟨#[c]⟩ 0 (Lib.countB s ⟨#[c]⟩) s).map Value.string).toArray 9) := by
 have z := strings_Split.core s c w hs;go_enter Tryz.func33, Tryz.ntmps33;go_wp2_with (go_at_call 47; (with_reducible refine z.mono ?_); rintro e w' ⟨rfl, rfl⟩);go_ret;exact ⟨rfl, rfl⟩
theorem Own.R_strings (w : World) (xs : List ByteArray) (hl : xs.length ≤ maxLen) :
  Kd.R Kd.string 9 (w.alloc (.cells (xs.map Value.string).toArray 9)) w.heap.size (fun _ => True) (.slice (some ⟨w.heap.size, 0, none⟩) xs.length xs.length) xs := by
 refine ⟨fun _ _ => trivial, xs.map Value.string, ⟨by show _ = _ * 1; rw [List.length_map, Nat.mul_one], .inr ⟨w.heap.size, xs.length, (xs.map Value.string).toArray, rfl, Nat.le_refl _, ?_, Nat.le_refl _, hl, ?_, ?_⟩⟩, ?_, ?_⟩
 ·show (w.heap.push _)[w.heap.size]? = _;simp
 ·show _ = _ * 1;simp
 ·show List.take (_ * 1) _ = _;rw [Nat.mul_one, List.take_of_length_le (by simp)]
 ·show _ = _ * 1;simp
 ·intro j p hp;show ((xs.map Value.string).drop (j * 1)).take 1 = [Value.string p];rw [Nat.mul_one];(have h2 : (xs.map Value.string)[j]? = some (Value.string p) := by rw [List.getElem?_map, hp]; rfl);obtain ⟨hj, e⟩ := List.getElem?_eq_some_iff.1 h2;rw [List.drop_eq_getElem_cons hj, e]; rfl
def strings_Split.f (a0 : ByteArray) (a1 : ByteArray) : Option (List ByteArray) := if a0.size < 4294967281 then (if a1.size = 1 then some (Lib.splitB a1 0 (Lib.countB a0 a1) a0) else none) else none
theorem strings_Split.calls (a0 : ByteArray) (a1 : ByteArray) (r : List ByteArray) (w : World) (h : strings_Split.f a0 a1 = some r) :
  Calls Tryz.prog 33 #[.string a0, .string a1] w fun e w' => ∃ v0_ : Value, e = .returned (v0_) ∧ Kd.R Kd.string 9 w' w.heap.size (fun _ => True) v0_ r ∧ Below w.heap.size w w' := by
 unfold strings_Split.f at h
 split at h
 ·rename_i h0
  split at h
  ·rename_i h1;obtain rfl := Option.some.inj h;obtain ⟨c, rfl⟩ := Lib.one_byte a1 h1;have hlen := Lib.splitB_all ⟨#[c]⟩ (Nat.le_refl _) 0 _ a0 rfl;have hle := Lib.countB_le ⟨#[c]⟩ (Nat.le_refl _) a0.size a0 (Nat.le_refl _);refine (strings_Split.one a0 c w h0).mono ?_;rintro e w' ⟨rfl, rfl⟩;have z := Own.R_strings w (Lib.splitB ⟨#[c]⟩ 0 (Lib.countB a0 ⟨#[c]⟩) a0) (by rw [hlen]; show _ ≤ 9223372036854775807; omega);rw [hlen] at z;exact ⟨_, rfl, z, (Below.refl _ w).alloc (Nat.le_refl _) _⟩
  ·cases h
 ·cases h
/-! ### strings_HasSuffix: function 34 -/
def strings_HasSuffix.f (a0 : ByteArray) (a1 : ByteArray) : Option (Bool) := if a0.size ≤ 9223372036854775807 then some (Lib.hasSuffix a0.data.toList a1.data.toList) else none
theorem strings_HasSuffix.calls (a0 : ByteArray) (a1 : ByteArray) (r : Bool) (w : World) (h : strings_HasSuffix.f a0 a1 = some r) :
  Calls Tryz.prog 34 #[.string a0, .string a1] w fun e w' => e = .returned (.bool r) ∧ Drawn0 w w' := by
 unfold strings_HasSuffix.f at h
 split at h
 ·rename_i h0;obtain rfl := Option.some.inj h;(exact (Tryz.strings_HasSuffix a0 a1 w h0).mono fun e w' ⟨he, hw⟩ => ⟨he, hw ▸ Drawn0.refl _⟩)
 ·cases h
/-! ### date_number: function 49 -/
def date_number.l0 : Nat → ByteArray → Int → Int → Int → Option (Int)
 | 0, _, _, _, _ => none
 | k + 1, x0, x5, x12, x13 => if x13 < x12 then (if 0 ≤ x13 then (if x13 < (x0.size : Int) then (if (bt x0 x13) < 48 then (some (-1)) else (if (bt x0 x13) > 57 then (some (-1)) else (date_number.l0 k x0 (wrap64 ((wrap64 (x5 * 10)) + (((bt x0 x13) - 48) % 256))) x12 (wrap64 (x13 + 1))))) else (none)) else (none)) else (some x5)
def date_number.f (k : Nat) (a0 : ByteArray) (a1 : Int) : Option (Int) := if (a0.size : Int) = a1 then (date_number.l0 k a0 0 (a0.size : Int) 0) else (some (-1))
theorem date_number.mono_l : ∀ k, (∀ y0 y1 y2 y3, LeO (date_number.l0 k y0 y1 y2 y3) (date_number.l0 (k + 1) y0 y1 y2 y3))
 | 0 => fun _ _ _ _ r h => by simp [date_number.l0] at h
 | k + 1 => by
  have ih0 := date_number.mono_l k
  ·intro y0 y1 y2 y3
   unfold date_number.l0
   repeat' first
   | (with_reducible exact ih0 _ _ _ _)
   | (with_reducible exact LeO.refl _)
   | (with_reducible exact LeO.none _)
   | (with_reducible refine LeO.ite ?_ ?_)
   | (with_reducible refine LeO.bind ?_ (fun _ => ?_))
   | exact ih0 _ _ _ _
   | exact LeO.none _
   | refine LeO.ite ?_ ?_
   | refine LeO.bind ?_ (fun _ => ?_)
theorem date_number.mono : ∀ a0 a1 k, LeO (date_number.f k a0 a1) (date_number.f (k + 1) a0 a1) := by
 intro a0 a1 k;have ih0 := date_number.mono_l k
 unfold date_number.f
 repeat' first
   | (with_reducible exact ih0 _ _ _ _)
   | (with_reducible exact LeO.refl _)
   | (with_reducible exact LeO.none _)
   | (with_reducible refine LeO.ite ?_ ?_)
   | (with_reducible refine LeO.bind ?_ (fun _ => ?_))
   | exact ih0 _ _ _ _
   | exact LeO.none _
   | refine LeO.ite ?_ ?_
   | refine LeO.bind ?_ (fun _ => ?_)
set_option maxHeartbeats 2000000 in
set_option maxRecDepth 100000 in
theorem date_number.calls (k : Nat) (a0 : ByteArray) (a1 : Int) (r : Int) (w : World) (h : date_number.f k a0 a1 = some r) :
  Calls Tryz.prog 49 #[.string a0, .int .i64 a1] w fun e w' => e = .returned (.int .i64 r) ∧ Drawn0 w w' := by
 have H : (if (a0.size : Int) = a1 then (date_number.l0 k a0 0 (a0.size : Int) 0) else (some (-1))) = some r := h;clear h
 by_cases c3 : (a0.size : Int) = a1
 ·rw [if_pos c3] at H
  have c3b0 : ((a0.size : Int) == a1) = true := beq_iff_eq.mpr c3;have c3b1 : ((a0.size : Int) != a1) = false := bne_eq_false_iff_eq.mpr c3;clear c3;have H' := Aside0.mk H;clear H;go_enter Tryz.func49, Tryz.ntmps49;go_wp2;go_loopg [5, 13] k (fun kq v5 v13 w' => ∃ (x5_1 : Int) (x13_1 : Int), v5 = .int .i64 x5_1 ∧ v13 = .int .i64 x13_1 ∧ Aside0 (date_number.l0 kq a0 x5_1 (a0.size : Int) x13_1 = some r) ∧ Aside0 (kq ≤ k) ∧ Drawn0 w w')
  case atStart => exact ⟨(0), (0), (by first | rfl | (simp; done) | (simp [*]; done)), (by first | rfl | (simp; done) | (simp [*]; done)), H', ⟨Nat.le_refl _⟩, by repeat (first | exact Drawn0.refl _ | apply Drawn0.step)⟩
  case round =>
   clear H';(try clear p2);(try clear c3);(try clear c3b0);(try clear c3b1);obtain ⟨x5_1, x13_1, rfl, rfl, HA, HK1, ⟨m1, rfl⟩⟩ := hrel
   cases gk with
   | zero => exact absurd HA.out (by simp [date_number.l0])
   | succ k1 =>
    have H := HA.out;clear HA;simp only [date_number.l0] at H
    by_cases c4 : x13_1 < (a0.size : Int)
    ·rw [if_pos c4] at H
     have c4b0 : decide (x13_1 < (a0.size : Int)) = true := decide_eq_true c4;clear c4
     by_cases c5 : 0 ≤ x13_1
     ·rw [if_pos c5] at H
      have c5b0 : decide (0 ≤ x13_1) = true := decide_eq_true c5;clear c5
      by_cases c6 : x13_1 < (a0.size : Int)
      ·rw [if_pos c6] at H
       have c6b0 : decide (x13_1 < (a0.size : Int)) = true := decide_eq_true c6;clear c6
       by_cases c8 : (bt a0 x13_1) < 48
       ·rw [if_pos c8] at H;have c8b0 : decide ((bt a0 x13_1) < 48) = true := decide_eq_true c8;clear c8;obtain rfl := Option.some.inj H;have p7 : 0 ≤ (x13_1 : Int) := of_decide_eq_true (by first | (with_reducible assumption) | assumption);have q7 : x13_1 < (a0.size : Int) := of_decide_eq_true (by first | (with_reducible assumption) | assumption);have hx7 := bt_at a0 x13_1;replace p7 := eq_true p7;replace q7 := eq_true q7;go_wp2;go_ret;exact ⟨by first | rfl | (simp; done) | (simp [*]; done), by repeat (first | exact Drawn0.refl _ | apply Drawn0.step)⟩
       ·rw [if_neg c8] at H
        have c8b0 : decide ((bt a0 x13_1) < 48) = false := decide_eq_false c8;clear c8
        by_cases c10 : (bt a0 x13_1) > 57
        ·rw [if_pos c10] at H;have c10b0 : decide (57 < (bt a0 x13_1)) = true := decide_eq_true c10;clear c10;obtain rfl := Option.some.inj H;have p7 : 0 ≤ (x13_1 : Int) := of_decide_eq_true (by first | (with_reducible assumption) | assumption);have q7 : x13_1 < (a0.size : Int) := of_decide_eq_true (by first | (with_reducible assumption) | assumption);have hx7 := bt_at a0 x13_1;replace p7 := eq_true p7;replace q7 := eq_true q7;have p9 : 0 ≤ (x13_1 : Int) := of_decide_eq_true (by first | (with_reducible assumption) | assumption);have q9 : x13_1 < (a0.size : Int) := of_decide_eq_true (by first | (with_reducible assumption) | assumption);have hx9 := bt_at a0 x13_1;replace p9 := eq_true p9;replace q9 := eq_true q9;go_wp2;go_ret;exact ⟨by first | rfl | (simp; done) | (simp [*]; done), by repeat (first | exact Drawn0.refl _ | apply Drawn0.step)⟩
        ·rw [if_neg c10] at H
         have c10b0 : decide (57 < (bt a0 x13_1)) = false := decide_eq_false c10;clear c10;have H' := Aside0.mk H;clear H;have p7 : 0 ≤ (x13_1 : Int) := of_decide_eq_true (by first | (with_reducible assumption) | assumption);have q7 : x13_1 < (a0.size : Int) := of_decide_eq_true (by first | (with_reducible assumption) | assumption);have hx7 := bt_at a0 x13_1;replace p7 := eq_true p7;replace q7 := eq_true q7;have p9 : 0 ≤ (x13_1 : Int) := of_decide_eq_true (by first | (with_reducible assumption) | assumption);have q9 : x13_1 < (a0.size : Int) := of_decide_eq_true (by first | (with_reducible assumption) | assumption);have hx9 := bt_at a0 x13_1;replace p9 := eq_true p9;replace q9 := eq_true q9;have p11 : 0 ≤ (x13_1 : Int) := of_decide_eq_true (by first | (with_reducible assumption) | assumption);have q11 : x13_1 < (a0.size : Int) := of_decide_eq_true (by first | (with_reducible assumption) | assumption);have hx11 := bt_at a0 x13_1;replace p11 := eq_true p11;replace q11 := eq_true q11;go_wp2;go_roundg k1
         case measure => have := HK1.out; omega
         case rel => exact ⟨(wrap64 ((wrap64 (x5_1 * 10)) + (((bt a0 x13_1) - 48) % 256))), (wrap64 (x13_1 + 1)), (by first | rfl | (simp; done) | (simp [*]; done)), (by first | rfl | (simp; done) | (simp [*]; done)), H', ⟨by have := HK1.out; omega⟩, by repeat (first | exact Drawn0.refl _ | apply Drawn0.step)⟩
      ·rw [if_neg c6] at H;exact absurd H (by simp)
     ·rw [if_neg c5] at H;exact absurd H (by simp)
    ·rw [if_neg c4] at H;have c4b0 : decide (x13_1 < (a0.size : Int)) = false := decide_eq_false c4;clear c4;obtain rfl := Option.some.inj H;go_wp2;go_ret;exact ⟨by first | rfl | (simp; done) | (simp [*]; done), by repeat (first | exact Drawn0.refl _ | apply Drawn0.step)⟩
 ·rw [if_neg c3] at H;have c3b0 : ((a0.size : Int) == a1) = false := beq_eq_false_iff_ne.mpr c3;have c3b1 : ((a0.size : Int) != a1) = true := bne_iff_ne.mpr c3;obtain rfl := Option.some.inj H;go_enter Tryz.func49, Tryz.ntmps49;go_wp2;go_ret;exact ⟨by first | rfl | (simp; done) | (simp [*]; done), by repeat (first | exact Drawn0.refl _ | apply Drawn0.step)⟩
end Go.Proofs.YtfjeagglminhoaaGreatDoor.Q
