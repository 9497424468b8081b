-- Written by a program of this session's (wip/xprint.py), out of the seat's translation.
import Derived.Test.YtfjeagglminhoaaGreatDoorQ0
import Derived.Test.YtfjeagglminhoaaGreatDoorQ1
import Derived.Test.YtfjeagglminhoaaGreatDoorSh
namespace Go.Proofs.YtfjeagglminhoaaGreatDoor.Q
open Go.RowKit Go.Proofs.YtfjeagglminhoaaGreatDoorW.PrintWords Go.Proofs.YtfjeagglminhoaaGreatDoorW.PrintLast Go.Proofs.YtfjeagglminhoaaGreatDoorW.PrintMore
open Go.Proofs.YtfjeagglminhoaaGreatDoor.Own (Y Z sA sB sC)
open Go.Proofs.YtfjeagglminhoaaGreatDoor.Sh
attribute [local go_sem] max2_int min2_int max_two min_two max_three min_three max_four min_four   -- for this text's walks alone
set_option linter.unusedVariables false
set_option linter.unusedSimpArgs false
/-! ### strings_Cut: function 57 -/
set_option maxHeartbeats 8000000 in
set_option maxRecDepth 100000 in
theorem strings_Cut.idx (s sep : ByteArray) (c : UInt8) (hsep : sep = ⟨#[c]⟩) (hs : s.size ≤ 9223372036854775807) (w : World) :
  Calls Tryz.prog 92 #[.string s, .string sep] w fun e w' => e = .returned (.int .i64 (Lib.indexByte s.data.toList c)) ∧ w' = w := by
 (have hz : sep.size = 1 := by rw [hsep]; rfl);(have h0 : sep[0] = c := by subst hsep; rfl);(have hib := fun w => Tryz.stringslite_IndexByte s (c.toNat : Int) w);(have hcc : (c.toNat : Int).toNat.toUInt8 = c := by rw [Int.toNat_natCast]; simp);rw [hcc] at hib
 have e2 : (sep.toList == s.toList) = true → Lib.indexByte s.data.toList c = 0 := fun h => by
  have := beq_iff_eq.1 h;rw [Lib.toList_data, Lib.toList_data, hsep] at this;rw [← this]; simp [Lib.indexByte]
 have E2 := Aside0.mk e2;clear e2;go_enter Tryz.func92, Tryz.ntmps92;go_wp2_with (go_at_call 99; (try rw [h0]); refine (hib _).mono ?_; rintro e w' ⟨rfl, rfl⟩)
 ·go_ret;exact ⟨by rw [E2.out (by first | assumption | (simp [*]))]; simp [*], rfl⟩
 ·go_ret;exact ⟨rfl, rfl⟩
theorem strings_Cut.range : ∀ (s : List UInt8) (c : UInt8), -1 ≤ Lib.indexByte s c ∧ Lib.indexByte s c < (s.length : Int)
 | [], c => by unfold Lib.indexByte; simp
 | x :: t, c => by
  have ih := strings_Cut.range t c
  unfold Lib.indexByte
  rw [List.length_cons]
  split
  ·omega
  ·split
   ·omega
   ·omega
def strings_Cut.val (s : ByteArray) (c : UInt8) : ByteArray × ByteArray × Bool :=
 if Lib.indexByte s.data.toList c ≥ 0 then (s.extract 0 (Lib.indexByte s.data.toList c).toNat, s.extract (Lib.indexByte s.data.toList c + 1).toNat s.size, true) else (s, ⟨#[]⟩, false)
set_option maxHeartbeats 800000 in
set_option maxRecDepth 100000 in
theorem strings_Cut.miss (s sep : ByteArray) (i : Int) (hidx : ∀ w, Calls Tryz.prog 92 #[.string s, .string sep] w fun e w' => e = .returned (.int .i64 i) ∧ w' = w) (h0 : ¬ i ≥ 0) (w : World) :
  Calls Tryz.prog 78 #[.string s, .string sep] w fun e w' => e = .returned (.tuple #[.string s, .string ⟨#[]⟩, .bool false]) ∧ Below w.heap.size w w' := by
 have q0 : decide (i ≥ 0) = false := decide_eq_false h0;go_enter Tryz.func78, Tryz.ntmps78;go_wp2_with (go_at_call 92; refine (hidx _).mono ?_; rintro e w' ⟨rfl, rfl⟩);refine bodyPost_ret (results_tmp3 rfl _ _ _) rfl ?_;exact ⟨rfl, Below.refl _ _⟩
set_option maxHeartbeats 800000 in
set_option maxRecDepth 100000 in
theorem strings_Cut.hit (s sep : ByteArray) (i : Int) (hz : sep.size = 1) (hs : s.size ≤ 9223372036854775807) (hidx : ∀ w, Calls Tryz.prog 92 #[.string s, .string sep] w fun e w' => e = .returned (.int .i64 i) ∧ w' = w) (h0 : i ≥ 0) (h1 : i < (s.size : Int)) (w : World) :
  Calls Tryz.prog 78 #[.string s, .string sep] w fun e w' => e = .returned (.tuple #[.string (s.extract 0 i.toNat), .string (s.extract (i + 1).toNat s.size), .bool true]) ∧ Below w.heap.size w w' := by
 have q0 : decide (i ≥ 0) = true := decide_eq_true h0;(have hw : wrap64 (i + (sep.size : Int)) = i + 1 := by rw [hz]; unfold wrap64; omega);have p1 := eq_true (show (0 : Int) ≤ i by omega);have p2 := eq_true (show i ≤ (s.size : Int) by omega);have p3 := eq_true (show (0 : Int) ≤ wrap64 (i + (sep.size : Int)) by rw [hw]; omega);have p4 := eq_true (show wrap64 (i + (sep.size : Int)) ≤ (s.size : Int) by rw [hw]; omega);have HW := Aside0.mk hw;clear hw h0 h1 hs hz;go_enter Tryz.func78, Tryz.ntmps78;go_wp2_with (go_at_call 92; refine (hidx _).mono ?_; rintro e w' ⟨rfl, rfl⟩);go_quiet (fail);go_wp2;refine bodyPost_ret (results_tmp3 rfl _ _ _) rfl ?_;exact ⟨by rw [← HW.out]; rfl, pw_below_drewN (Below.refl _ _) _⟩
theorem strings_Cut.lite (s sep : ByteArray) (c : UInt8) (hsep : sep = ⟨#[c]⟩) (hs : s.size ≤ 9223372036854775807) (x y : ByteArray) (b : Bool) (he : strings_Cut.val s c = (x, y, b)) (w : World) :
  Calls Tryz.prog 78 #[.string s, .string sep] w fun e w' => e = .returned (.tuple #[.string x, .string y, .bool b]) ∧ Below w.heap.size w w' := by
 have hr := strings_Cut.range s.data.toList c;have hl : s.data.toList.length = s.size := rfl;(have hz : sep.size = 1 := by rw [hsep]; rfl);have hi := strings_Cut.idx s sep c hsep hs;rw [hl] at hr
 unfold strings_Cut.val at he
 generalize Lib.indexByte s.data.toList c = i at *
 by_cases h0 : i ≥ 0
 ·rw [if_pos h0, Prod.mk.injEq, Prod.mk.injEq] at he;obtain ⟨h1, h2, h3⟩ := he;have := strings_Cut.hit s sep i hz hs hi h0 hr.2 w;rw [h1, h2, h3] at this;exact this
 ·rw [if_neg h0, Prod.mk.injEq, Prod.mk.injEq] at he;obtain ⟨h1, h2, h3⟩ := he;have := strings_Cut.miss s sep i hi h0 w;rw [h2, h3] at this;subst h1;exact this
set_option maxHeartbeats 800000 in
set_option maxRecDepth 100000 in
theorem strings_Cut.own (s sep : ByteArray) (x y : ByteArray) (b : Bool) (hl : ∀ w, Calls Tryz.prog 78 #[.string s, .string sep] w fun e w' => e = .returned (.tuple #[.string x, .string y, .bool b]) ∧ Below w.heap.size w w') (w : World) :
  Calls Tryz.prog 57 #[.string s, .string sep] w fun e w' => e = .returned (.tuple #[.string x, .string y, .bool b]) ∧ Below w.heap.size w w' := by
 go_enter Tryz.func57, Tryz.ntmps57;go_wp2_with (go_at_call 78; refine (hl _).mono ?_; rintro e w' ⟨rfl, hb⟩);refine bodyPost_ret (results_tmp3 rfl _ _ _) rfl ?_;exact ⟨rfl, hb⟩
def strings_Cut.f (a0 : ByteArray) (a1 : ByteArray) : Option (ByteArray × ByteArray × Bool) :=
 if a0.size ≤ 9223372036854775807 then (match a1.data.toList with | [c] => some (strings_Cut.val a0 c) | _ => none) else none
theorem strings_Cut.calls (a0 : ByteArray) (a1 : ByteArray) (r1 : ByteArray) (r2 : ByteArray) (r3 : Bool) (w : World) (h : strings_Cut.f a0 a1 = some (r1, r2, r3)) :
  Calls Tryz.prog 57 #[.string a0, .string a1] w fun e w' => e = .returned (.tuple #[.string r1, .string r2, .bool r3]) ∧ Below w.heap.size w w' := by
 unfold strings_Cut.f at h
 split at h
 ·rename_i h1
  split at h
  ·rename_i c hc;exact strings_Cut.own a0 a1 r1 r2 r3 (strings_Cut.lite a0 a1 c (by rw [show a1 = ⟨a1.data.toList.toArray⟩ from rfl, hc]) h1 r1 r2 r3 (Option.some.inj h)) w
  ·cases h
 ·cases h
/-! ### cc_unquoted: function 59 -/
def cc_unquoted.f (a0 : ByteArray) : Option (ByteArray) := if (a0.size : Int) ≥ 2 then (if 0 < (a0.size : Int) then (if (bt a0 0) = 34 then (if 0 ≤ (wrap64 ((a0.size : Int) - 1)) then (if (wrap64 ((a0.size : Int) - 1)) < (a0.size : Int) then (if (bt a0 (wrap64 ((a0.size : Int) - 1))) = 34 then (if 1 ≤ (wrap64 ((a0.size : Int) - 1)) then (if (wrap64 ((a0.size : Int) - 1)) ≤ (a0.size : Int) then (some (a0.extract 1 ((wrap64 ((a0.size : Int) - 1)) : Int).toNat)) else (none)) else (none)) else (some a0)) else (none)) else (none)) else (some a0)) else (none)) else (some a0)
set_option maxHeartbeats 2000000 in
set_option maxRecDepth 100000 in
theorem cc_unquoted.calls (a0 : ByteArray) (r : ByteArray) (w : World) (h : cc_unquoted.f a0 = some r) :
  Calls Tryz.prog 59 #[.string a0] w fun e w' => e = .returned (.string r) ∧ Drawn0 w w' := by
 have H : (if (a0.size : Int) ≥ 2 then (if 0 < (a0.size : Int) then (if (bt a0 0) = 34 then (if 0 ≤ (wrap64 ((a0.size : Int) - 1)) then (if (wrap64 ((a0.size : Int) - 1)) < (a0.size : Int) then (if (bt a0 (wrap64 ((a0.size : Int) - 1))) = 34 then (if 1 ≤ (wrap64 ((a0.size : Int) - 1)) then (if (wrap64 ((a0.size : Int) - 1)) ≤ (a0.size : Int) then (some (a0.extract 1 ((wrap64 ((a0.size : Int) - 1)) : Int).toNat)) else (none)) else (none)) else (some a0)) else (none)) else (none)) else (some a0)) else (none)) else (some a0)) = some r := h;clear h
 by_cases c2 : (a0.size : Int) ≥ 2
 ·rw [if_pos c2] at H
  have c2b0 : decide (2 ≤ (a0.size : Int)) = true := decide_eq_true c2;have c2b1 : decide (2 ≤ a0.size) = true := decide_eq_true (by omega);clear c2
  by_cases c3 : 0 < (a0.size : Int)
  ·rw [if_pos c3] at H
   have c3b0 : decide (0 < (a0.size : Int)) = true := decide_eq_true c3;have c3b1 : decide (0 < a0.size) = true := decide_eq_true (by omega);clear c3
   by_cases c5 : (bt a0 0) = 34
   ·rw [if_pos c5] at H
    have c5b0 : ((bt a0 0) == 34) = true := beq_iff_eq.mpr c5;have c5b1 : ((bt a0 0) != 34) = false := bne_eq_false_iff_eq.mpr c5;clear c5;obtain ⟨ji6, hji6⟩ : ∃ j_ : Int, (wrap64 ((a0.size : Int) - 1)) = j_ := ⟨_, rfl⟩;(replace H : (if 0 ≤ (ji6) then (if (ji6) < (a0.size : Int) then (if (bt a0 (ji6)) = 34 then (if 1 ≤ (ji6) then (if (ji6) ≤ (a0.size : Int) then (some (a0.extract 1 ((ji6) : Int).toNat)) else (none)) else (none)) else (some a0)) else (none)) else (none)) = some r := by first | (rw [hji6] at H; exact H) | (simp only [hji6] at H ⊢; exact H));have hji6w : (IntKind.i64.wrap ((a0.size : Int) - 1)) = ji6 := (i64_w _).trans hji6
    by_cases c7 : 0 ≤ (ji6)
    ·rw [if_pos c7] at H
     have c7b0 : decide (0 ≤ (ji6)) = true := decide_eq_true c7;clear c7
     by_cases c8 : (ji6) < (a0.size : Int)
     ·rw [if_pos c8] at H
      have c8b0 : decide ((ji6) < (a0.size : Int)) = true := decide_eq_true c8;clear c8
      by_cases c10 : (bt a0 (ji6)) = 34
      ·rw [if_pos c10] at H
       have c10b0 : ((bt a0 (ji6)) == 34) = true := beq_iff_eq.mpr c10;have c10b1 : ((bt a0 (ji6)) != 34) = false := bne_eq_false_iff_eq.mpr c10;clear c10
       by_cases c11 : 1 ≤ (ji6)
       ·rw [if_pos c11] at H
        have c11b0 := eq_true c11;have c11b1 : decide (1 ≤ (ji6)) = true := decide_eq_true c11;clear c11
        by_cases c12 : (ji6) ≤ (a0.size : Int)
        ·rw [if_pos c12] at H
         have c12b0 := eq_true c12;have c12b1 : decide ((ji6) ≤ (a0.size : Int)) = true := decide_eq_true c12;clear c12;obtain rfl := Option.some.inj H;have p4 : 0 ≤ (0 : Int) := (by omega);have q4 : 0 < a0.size := (by have : (0 : Int) < (a0.size : Int) := of_decide_eq_true (by first | (with_reducible assumption) | assumption); omega);have hx4 : ∀ h : 0 < a0.size, ((a0[0]'h).toNat : Int) = bt a0 0 := bt_at a0 0;clear p4;have qi4 : (0 < (a0.size : Int)) = True := eq_true (of_decide_eq_true (by first | (with_reducible assumption) | assumption));replace q4 := eq_true q4;have p9 : 0 ≤ ((ji6) : Int) := of_decide_eq_true (by first | (with_reducible assumption) | assumption);have q9 : (ji6) < (a0.size : Int) := of_decide_eq_true (by first | (with_reducible assumption) | assumption);have hx9 := bt_at a0 (ji6);replace p9 := eq_true p9;replace q9 := eq_true q9
         (try (have e_c5b0 := c5b0; simp only [c2b0, c3b0, c7b0, c8b0, c10b0] at e_c5b0; simp at e_c5b0))
         (try (have e_c10b0 := c10b0; simp only [c2b0, c3b0, c5b0, c7b0, c8b0] at e_c10b0; simp at e_c10b0))
         go_enter Tryz.func59, Tryz.ntmps59;go_wp2;go_ret;exact ⟨by first | rfl | (simp; done) | (simp only [← hji6] <;> (first | rfl | simp)) | (simp [*]; done), by repeat (first | exact Drawn0.refl _ | apply Drawn0.step)⟩
        ·rw [if_neg c12] at H;exact absurd H (by simp)
       ·rw [if_neg c11] at H;exact absurd H (by simp)
      ·rw [if_neg c10] at H
       have c10b0 : ((bt a0 (ji6)) == 34) = false := beq_eq_false_iff_ne.mpr c10;have c10b1 : ((bt a0 (ji6)) != 34) = true := bne_iff_ne.mpr c10;obtain rfl := Option.some.inj H;have p4 : 0 ≤ (0 : Int) := (by omega);have q4 : 0 < a0.size := (by have : (0 : Int) < (a0.size : Int) := of_decide_eq_true (by first | (with_reducible assumption) | assumption); omega);have hx4 : ∀ h : 0 < a0.size, ((a0[0]'h).toNat : Int) = bt a0 0 := bt_at a0 0;clear p4;have qi4 : (0 < (a0.size : Int)) = True := eq_true (of_decide_eq_true (by first | (with_reducible assumption) | assumption));replace q4 := eq_true q4;have p9 : 0 ≤ ((ji6) : Int) := of_decide_eq_true (by first | (with_reducible assumption) | assumption);have q9 : (ji6) < (a0.size : Int) := of_decide_eq_true (by first | (with_reducible assumption) | assumption);have hx9 := bt_at a0 (ji6);replace p9 := eq_true p9;replace q9 := eq_true q9
       (try (have e_c5b0 := c5b0; simp only [c2b0, c3b0, c7b0, c8b0, c10b0] at e_c5b0; simp at e_c5b0))
       (try (have e_c10b0 := c10b0; simp only [c2b0, c3b0, c5b0, c7b0, c8b0] at e_c10b0; simp at e_c10b0))
       go_enter Tryz.func59, Tryz.ntmps59;go_wp2;go_ret;exact ⟨by first | rfl | (simp; done) | (simp only [← hji6] <;> (first | rfl | simp)) | (simp [*]; done), by repeat (first | exact Drawn0.refl _ | apply Drawn0.step)⟩
     ·rw [if_neg c8] at H;exact absurd H (by simp)
    ·rw [if_neg c7] at H;exact absurd H (by simp)
   ·rw [if_neg c5] at H
    have c5b0 : ((bt a0 0) == 34) = false := beq_eq_false_iff_ne.mpr c5;have c5b1 : ((bt a0 0) != 34) = true := bne_iff_ne.mpr c5;obtain rfl := Option.some.inj H;have p4 : 0 ≤ (0 : Int) := (by omega);have q4 : 0 < a0.size := (by have : (0 : Int) < (a0.size : Int) := of_decide_eq_true (by first | (with_reducible assumption) | assumption); omega);have hx4 : ∀ h : 0 < a0.size, ((a0[0]'h).toNat : Int) = bt a0 0 := bt_at a0 0;clear p4;have qi4 : (0 < (a0.size : Int)) = True := eq_true (of_decide_eq_true (by first | (with_reducible assumption) | assumption));replace q4 := eq_true q4
    (try (have e_c5b0 := c5b0; simp only [c2b0, c3b0] at e_c5b0; simp at e_c5b0))
    go_enter Tryz.func59, Tryz.ntmps59;go_wp2;go_ret;exact ⟨by first | rfl | (simp; done) | (simp [*]; done), by repeat (first | exact Drawn0.refl _ | apply Drawn0.step)⟩
  ·rw [if_neg c3] at H;exact absurd H (by simp)
 ·rw [if_neg c2] at H;have c2b0 : decide (2 ≤ (a0.size : Int)) = false := decide_eq_false c2;have c2b1 : decide (2 ≤ a0.size) = false := decide_eq_false (by omega);clear c2;obtain rfl := Option.some.inj H;go_enter Tryz.func59, Tryz.ntmps59;go_wp2;go_ret;exact ⟨by first | rfl | (simp; done) | (simp [*]; done), by repeat (first | exact Drawn0.refl _ | apply Drawn0.step)⟩
/-! ### cc_Seconds: function 94 -/
mutual
def cc_Seconds.j0 : Nat → ByteArray → Bool → Option (Int × Bool)
 | 0, _, _ => none
 | k + 1, x0, x12 => if x12 = true then (some (0, false)) else (cc_Seconds.l0 k x0 0 (x0.size : Int) 0)
def cc_Seconds.l0 : Nat → ByteArray → Int → Int → Int → Option (Int × Bool)
 | 0, _, _, _, _ => none
 | k + 1, x0, x4, x14, x15 => if x15 < x14 then (if 0 ≤ x15 then (if x15 < (x0.size : Int) then (if (bt x0 x15) < 48 then (some (0, false)) else (if (bt x0 x15) > 57 then (some (0, false)) else ((bits_Clip.f (wrap64 ((wrap64 (x4 * 10)) + (((bt x0 x15) - 48) % 256)))).bind fun t122 => (cc_Seconds.l0 k x0 t122 x14 (wrap64 (x15 + 1)))))) else (none)) else (none)) else (some (x4, true))
end
def cc_Seconds.f (k : Nat) (a0 : ByteArray) : Option (Int × Bool) := if a0.toList = ([] : List UInt8) then (cc_Seconds.j0 k a0 true) else (cc_Seconds.j0 k a0 (decide ((a0.size : Int) > 4000)))
theorem cc_Seconds.mono_l : ∀ k, (∀ y0 y1, LeO (cc_Seconds.j0 k y0 y1) (cc_Seconds.j0 (k + 1) y0 y1)) ∧ (∀ y0 y1 y2 y3, LeO (cc_Seconds.l0 k y0 y1 y2 y3) (cc_Seconds.l0 (k + 1) y0 y1 y2 y3))
 | 0 => ⟨fun _ _ r h => by simp [cc_Seconds.j0] at h, fun _ _ _ _ r h => by simp [cc_Seconds.l0] at h⟩
 | k + 1 => by
  obtain ⟨ih0, ih1⟩ := cc_Seconds.mono_l k;refine ⟨?_, ?_⟩
  ·intro y0 y1
   unfold cc_Seconds.j0
   repeat' first
   | (with_reducible exact ih0 _ _)
   | (with_reducible exact ih1 _ _ _ _)
   | (with_reducible exact LeO.refl _)
   | (with_reducible exact LeO.none _)
   | (with_reducible refine LeO.ite ?_ ?_)
   | (with_reducible refine LeO.bind ?_ (fun _ => ?_))
   | exact ih0 _ _
   | exact ih1 _ _ _ _
   | exact LeO.none _
   | refine LeO.ite ?_ ?_
   | refine LeO.bind ?_ (fun _ => ?_)
  ·intro y0 y1 y2 y3
   unfold cc_Seconds.l0
   repeat' first
   | (with_reducible exact ih0 _ _)
   | (with_reducible exact ih1 _ _ _ _)
   | (with_reducible exact LeO.refl _)
   | (with_reducible exact LeO.none _)
   | (with_reducible refine LeO.ite ?_ ?_)
   | (with_reducible refine LeO.bind ?_ (fun _ => ?_))
   | exact ih0 _ _
   | exact ih1 _ _ _ _
   | exact LeO.none _
   | refine LeO.ite ?_ ?_
   | refine LeO.bind ?_ (fun _ => ?_)
theorem cc_Seconds.mono : ∀ a0 k, LeO (cc_Seconds.f k a0) (cc_Seconds.f (k + 1) a0) := by
 intro a0 k;obtain ⟨ih0, ih1⟩ := cc_Seconds.mono_l k
 unfold cc_Seconds.f
 repeat' first
   | (with_reducible exact ih0 _ _)
   | (with_reducible exact ih1 _ _ _ _)
   | (with_reducible exact LeO.refl _)
   | (with_reducible exact LeO.none _)
   | (with_reducible refine LeO.ite ?_ ?_)
   | (with_reducible refine LeO.bind ?_ (fun _ => ?_))
   | exact ih0 _ _
   | exact ih1 _ _ _ _
   | exact LeO.none _
   | refine LeO.ite ?_ ?_
   | refine LeO.bind ?_ (fun _ => ?_)
set_option maxHeartbeats 2000000 in
set_option maxRecDepth 100000 in
theorem cc_Seconds.calls (k : Nat) (a0 : ByteArray) (r1 : Int) (r2 : Bool) (w : World) (h : cc_Seconds.f k a0 = some (r1, r2)) :
  Calls Tryz.prog 94 #[.string a0] w fun e w' => e = .returned (.tuple #[.int .i64 r1, .bool r2]) ∧ Below w.heap.size w w' := by
 have HB := Aside0.mk (Below.refl w.heap.size w);have H : (if a0.toList = ([] : List UInt8) then (cc_Seconds.j0 k a0 true) else (cc_Seconds.j0 k a0 (decide ((a0.size : Int) > 4000)))) = some (r1, r2) := h;clear h;have HC2 := Aside0.mk H;clear H;go_enter Tryz.func94, Tryz.ntmps94;go_upto_region 1 with (fail);go_cut [12] (fun v12 wc => ∃ (kq : Nat) (x12_1 : Bool), v12 = .bool x12_1 ∧ Aside0 (cc_Seconds.j0 kq a0 x12_1 = some (r1, r2)) ∧ Aside0 (kq ≤ k) ∧ Aside0 (Below w.heap.size w wc))
 case first =>
  have H := HC2.out;clear HC2
  by_cases c3 : a0.toList = ([] : List UInt8)
  ·rw [if_pos c3] at H
   have c3b0 : (a0.toList == ([] : List UInt8)) = true := beq_iff_eq.mpr c3;have c3b1 : (a0.toList != ([] : List UInt8)) = false := bne_eq_false_iff_eq.mpr c3;clear c3
   (first | rw [c3b0] | (simp only [i64_w, i32_w]; rw [c3b0]) | skip)
   have H' := Aside0.mk H;clear H;go_wp2;go_meet
   case rel => exact ⟨_, (true), (by first | rfl | (simp; done) | (simp [*]; done)), H', ⟨by first | omega | exact Nat.le_refl _⟩, ⟨hA HB.out⟩⟩
  ·rw [if_neg c3] at H
   have c3b0 : (a0.toList == ([] : List UInt8)) = false := beq_eq_false_iff_ne.mpr c3;have c3b1 : (a0.toList != ([] : List UInt8)) = true := bne_iff_ne.mpr c3
   (first | rw [c3b0] | (simp only [i64_w, i32_w]; rw [c3b0]) | skip)
   have H' := Aside0.mk H;clear H;go_wp2;go_meet
   case rel => exact ⟨_, (decide ((a0.size : Int) > 4000)), (by first | rfl | (simp; done) | (simp [*]; done)), H', ⟨by first | omega | exact Nat.le_refl _⟩, ⟨hA HB.out⟩⟩
 case rest =>
  clear HC2;(try clear p2);(try clear c3);(try clear c3b0);(try clear c3b1);obtain ⟨kq, x12_1, rfl, HA, HJ1, HB⟩ := hcut
  cases kq with
  | zero => exact absurd HA.out (by simp [cc_Seconds.j0])
  | succ kj1 =>
   have H := HA.out;clear HA;simp only [cc_Seconds.j0] at H
   by_cases c4 : x12_1 = true
   ·subst c4;(have H1 : (some (0, false)) = some (r1, r2) := by rw [if_pos rfl] at H; exact H);clear H;have H := H1;clear H1;simp only [Option.some.injEq, Prod.mk.injEq] at H;obtain ⟨rfl, rfl⟩ := H;go_wp2;go_ret2;exact ⟨by first | rfl | (simp [errW_none, errW_some] <;> rfl) | (simp [*, errW_none, errW_some] <;> rfl), by repeat (first | (with_reducible first | exact HB.out | apply below_alloc | apply pw_below_drewN | apply below_drew1) | exact HB.out)⟩
   ·replace c4 := Bool.eq_false_iff.mpr c4
    subst c4;(have H1 : (cc_Seconds.l0 kj1 a0 0 (a0.size : Int) 0) = some (r1, r2) := by rw [if_neg (show ¬ (false = true) by decide)] at H; exact H);clear H;have H := H1;clear H1;have H' := Aside0.mk H;clear H;go_wp2;go_loopg [4, 15] kj1 (fun kq v4 v15 w' => ∃ (x4_2 : Int) (x15_2 : Int), v4 = .int .i64 x4_2 ∧ v15 = .int .i64 x15_2 ∧ Aside0 (cc_Seconds.l0 kq a0 x4_2 (a0.size : Int) x15_2 = some (r1, r2)) ∧ Aside0 (kq ≤ kj1) ∧ Aside0 (Below w.heap.size w w'))
    case atStart => exact ⟨(0), (0), (by first | rfl | (simp; done) | (simp [*]; done)), (by first | rfl | (simp; done) | (simp [*]; done)), H', ⟨Nat.le_refl _⟩, ⟨hA HB.out⟩⟩
    case round =>
     clear H';(try clear p2);(try clear c3);(try clear c3b0);(try clear c3b1);(try clear c4);(try clear p2);obtain ⟨x4_2, x15_2, rfl, rfl, HA, HK2, HB⟩ := hrel
     cases gk with
     | zero => exact absurd HA.out (by simp [cc_Seconds.l0])
     | succ k2 =>
      have H := HA.out;clear HA;simp only [cc_Seconds.l0] at H
      by_cases c5 : x15_2 < (a0.size : Int)
      ·rw [if_pos c5] at H
       have c5b0 : decide (x15_2 < (a0.size : Int)) = true := decide_eq_true c5;clear c5
       by_cases c6 : 0 ≤ x15_2
       ·rw [if_pos c6] at H
        have c6b0 : decide (0 ≤ x15_2) = true := decide_eq_true c6;clear c6
        by_cases c7 : x15_2 < (a0.size : Int)
        ·rw [if_pos c7] at H
         have c7b0 : decide (x15_2 < (a0.size : Int)) = true := decide_eq_true c7;clear c7
         by_cases c9 : (bt a0 x15_2) < 48
         ·rw [if_pos c9] at H;have c9b0 : decide ((bt a0 x15_2) < 48) = true := decide_eq_true c9;clear c9;simp only [Option.some.injEq, Prod.mk.injEq] at H;obtain ⟨rfl, rfl⟩ := H;have p8 : 0 ≤ (x15_2 : Int) := of_decide_eq_true (by first | (with_reducible assumption) | assumption);have q8 : x15_2 < (a0.size : Int) := of_decide_eq_true (by first | (with_reducible assumption) | assumption);have hx8 := bt_at a0 x15_2;replace p8 := eq_true p8;replace q8 := eq_true q8;go_wp2;go_ret2;exact ⟨by first | rfl | (simp [errW_none, errW_some] <;> rfl) | (simp [*, errW_none, errW_some] <;> rfl), by repeat (first | (with_reducible first | exact HB.out | apply below_alloc | apply pw_below_drewN | apply below_drew1) | exact HB.out)⟩
         ·rw [if_neg c9] at H
          have c9b0 : decide ((bt a0 x15_2) < 48) = false := decide_eq_false c9;clear c9
          by_cases c11 : (bt a0 x15_2) > 57
          ·rw [if_pos c11] at H;have c11b0 : decide (57 < (bt a0 x15_2)) = true := decide_eq_true c11;clear c11;simp only [Option.some.injEq, Prod.mk.injEq] at H;obtain ⟨rfl, rfl⟩ := H;have p8 : 0 ≤ (x15_2 : Int) := of_decide_eq_true (by first | (with_reducible assumption) | assumption);have q8 : x15_2 < (a0.size : Int) := of_decide_eq_true (by first | (with_reducible assumption) | assumption);have hx8 := bt_at a0 x15_2;replace p8 := eq_true p8;replace q8 := eq_true q8;have p10 : 0 ≤ (x15_2 : Int) := of_decide_eq_true (by first | (with_reducible assumption) | assumption);have q10 : x15_2 < (a0.size : Int) := of_decide_eq_true (by first | (with_reducible assumption) | assumption);have hx10 := bt_at a0 x15_2;replace p10 := eq_true p10;replace q10 := eq_true q10;go_wp2;go_ret2;exact ⟨by first | rfl | (simp [errW_none, errW_some] <;> rfl) | (simp [*, errW_none, errW_some] <;> rfl), by repeat (first | (with_reducible first | exact HB.out | apply below_alloc | apply pw_below_drewN | apply below_drew1) | exact HB.out)⟩
          ·rw [if_neg c11] at H
           have c11b0 : decide (57 < (bt a0 x15_2)) = false := decide_eq_false c11;clear c11;replace H := Option.bind_eq_some_iff.mp H;obtain ⟨t122, A130, H⟩ := H;replace H : (cc_Seconds.l0 k2 a0 t122 (a0.size : Int) (wrap64 (x15_2 + 1))) = some (r1, r2) := H;have A13 := Aside0.mk A130;clear A130;have H' := Aside0.mk H;clear H;have p8 : 0 ≤ (x15_2 : Int) := of_decide_eq_true (by first | (with_reducible assumption) | assumption);have q8 : x15_2 < (a0.size : Int) := of_decide_eq_true (by first | (with_reducible assumption) | assumption);have hx8 := bt_at a0 x15_2;replace p8 := eq_true p8;replace q8 := eq_true q8;have p10 : 0 ≤ (x15_2 : Int) := of_decide_eq_true (by first | (with_reducible assumption) | assumption);have q10 : x15_2 < (a0.size : Int) := of_decide_eq_true (by first | (with_reducible assumption) | assumption);have hx10 := bt_at a0 x15_2;replace p10 := eq_true p10;replace q10 := eq_true q10;have p12 : 0 ≤ (x15_2 : Int) := of_decide_eq_true (by first | (with_reducible assumption) | assumption);have q12 : x15_2 < (a0.size : Int) := of_decide_eq_true (by first | (with_reducible assumption) | assumption);have hx12 := bt_at a0 x15_2;replace p12 := eq_true p12;replace q12 := eq_true q12;go_wp2_with (first | ((with_reducible refine gate_callee (f:=19) rfl ?_); refine goesL_ (some 36) rfl rfl Tryz.func19 (by kernel_rfl) rfl #[.int .i64 (wrap64 ((wrap64 (x4_2 * 10)) + (((bt a0 x15_2) - 48) % 256)))] rfl (by (try simp only [List.map_toArray, List.map_cons, List.map_nil]); first | done | rfl | (simp only [List.length_drop, List.length_take]; rfl)) ?_; (with_reducible refine (bits_Clip.calls (wrap64 ((wrap64 (x4_2 * 10)) + (((bt a0 x15_2) - 48) % 256))) t122 _ A13.out).mono ?_); rintro e w14 ⟨rfl, hb⟩; refine ⟨_, rfl, ?_⟩; have n0_ := Aside0.mk (below_step (hA HB.out) hb); clear HB; have HB := n0_; clear n0_; (try clear hb); (try clear hb2); (try clear hk); (try clear hi)));go_roundg k2
           case measure => have := HJ1.out; have := HK2.out; omega
           case rel => exact ⟨(t122), (wrap64 (x15_2 + 1)), (by first | rfl | (simp; done) | (simp [*]; done)), (by first | rfl | (simp; done) | (simp [*]; done)), H', ⟨by have := HJ1.out; have := HK2.out; omega⟩, ⟨hA HB.out⟩⟩
        ·rw [if_neg c7] at H;exact absurd H (by simp)
       ·rw [if_neg c6] at H;exact absurd H (by simp)
      ·rw [if_neg c5] at H;have c5b0 : decide (x15_2 < (a0.size : Int)) = false := decide_eq_false c5;clear c5;simp only [Option.some.injEq, Prod.mk.injEq] at H;obtain ⟨rfl, rfl⟩ := H;go_wp2;go_ret2;exact ⟨by first | rfl | (simp [errW_none, errW_some] <;> rfl) | (simp [*, errW_none, errW_some] <;> rfl), by repeat (first | (with_reducible first | exact HB.out | apply below_alloc | apply pw_below_drewN | apply below_drew1) | exact HB.out)⟩
/-! ### cc_Parse: function 40 -/
def cc_flagAt (B : Nat) (nm : ByteArray) : Option Addr := if Own.kindOf nm < 10 then some ⟨B, Own.kindOf nm, none⟩ else none
theorem cc_flagAt_lt (B : Nat) (nm : ByteArray) {n : Nat} (h : Own.kindOf nm = n) (hn : n < 10) : cc_flagAt B nm = some ⟨B, n, none⟩ := by subst h; unfold cc_flagAt; rw [if_pos hn]
theorem cc_flagAt_ge (B : Nat) (nm : ByteArray) (hn : ¬ Own.kindOf nm < 10) : cc_flagAt B nm = none := by unfold cc_flagAt; rw [if_neg hn]
set_option maxHeartbeats 1000000 in
set_option maxRecDepth 100000 in
theorem cc_flag.own (B : Nat) (nm : ByteArray) (w : World) :
  Calls Tryz.prog 79 #[.pointer (some ⟨B, 0, none⟩), .string nm] w fun e w' => e = .returned (.pointer (cc_flagAt B nm)) ∧ w' = w := by
 go_enter Tryz.func79, Tryz.ntmps79;go_wp2
 all_goals (go_ret; refine ⟨?_, rfl⟩; first
  | (have q := cc_flagAt_lt B nm (n:=0) (by unfold Own.kindOf; simp only [*, if_true, if_false, Bool.false_eq_true]) (by decide); rw [q]; rfl)
  | (have q := cc_flagAt_lt B nm (n:=1) (by unfold Own.kindOf; simp only [*, if_true, if_false, Bool.false_eq_true]) (by decide); rw [q]; rfl)
  | (have q := cc_flagAt_lt B nm (n:=2) (by unfold Own.kindOf; simp only [*, if_true, if_false, Bool.false_eq_true]) (by decide); rw [q]; rfl)
  | (have q := cc_flagAt_lt B nm (n:=3) (by unfold Own.kindOf; simp only [*, if_true, if_false, Bool.false_eq_true]) (by decide); rw [q]; rfl)
  | (have q := cc_flagAt_lt B nm (n:=4) (by unfold Own.kindOf; simp only [*, if_true, if_false, Bool.false_eq_true]) (by decide); rw [q]; rfl)
  | (have q := cc_flagAt_lt B nm (n:=5) (by unfold Own.kindOf; simp only [*, if_true, if_false, Bool.false_eq_true]) (by decide); rw [q]; rfl)
  | (have q := cc_flagAt_lt B nm (n:=6) (by unfold Own.kindOf; simp only [*, if_true, if_false, Bool.false_eq_true]) (by decide); rw [q]; rfl)
  | (have q := cc_flagAt_lt B nm (n:=7) (by unfold Own.kindOf; simp only [*, if_true, if_false, Bool.false_eq_true]) (by decide); rw [q]; rfl)
  | (have q := cc_flagAt_lt B nm (n:=8) (by unfold Own.kindOf; simp only [*, if_true, if_false, Bool.false_eq_true]) (by decide); rw [q]; rfl)
  | (have q := cc_flagAt_lt B nm (n:=9) (by unfold Own.kindOf; simp only [*, if_true, if_false, Bool.false_eq_true]) (by decide); rw [q]; rfl)
  | (have q := cc_flagAt_ge B nm (by unfold Own.kindOf; simp only [*, if_true, if_false, Bool.false_eq_true]; (repeat' split) <;> omega); rw [q]; rfl))
theorem min_lt (x n : Int) : min n x = if x < n then x else n := by rw [Int.min_def]; split <;> split <;> omega
theorem max_lt (x n : Int) : max n x = if n < x then x else n := by rw [Int.max_def]; split <;> split <;> omega
set_option maxHeartbeats 1000000 in
set_option maxRecDepth 100000 in
theorem cc_least.own (B o : Nat) (h : Bool) (x : Int) (a : ByteArray) (k : Nat) (n : Int) (ok : Bool) (w0 w : World) (cs : Array Value) (hB : w.heap[B]? = some (.cells cs 54 (0, 0))) (h0 : cs[o]? = some (.bool h)) (h1 : cs[o + 1]? = some (.int .i64 x)) (hge : w0.heap.size ≤ B) (hW : Below w0.heap.size w0 w) (hs : cc_Seconds.f k a = some (n, ok)) :
  Calls Tryz.prog 80 #[.pointer (some ⟨B, o, none⟩), .string a] w fun e w' => e = .returned (.tuple #[]) ∧ w'.heap[B]? = some (.cells ((cs.setIfInBounds o (.bool true)).setIfInBounds (o + 1) (.int .i64 (Own.leastOf h x n))) 54 (0, 0)) ∧ Below w0.heap.size w0 w' ∧ KeepBut w w' B none := by
 have hu33 := Tryz.underlying52;(have hsec := fun w => cc_Seconds.calls k a n ok w hs);have HB := Aside0.mk hB;have HW := Aside0.mk hW;clear hB hW
 cases h with
 | true =>
  go_enter Tryz.func80, Tryz.ntmps80;go_wp2_with (go_at_call 94; refine (hsec _).mono ?_; rintro e w' ⟨rfl, hb⟩; have HB' := Aside0.mk (blk_below HB.out hb); have HW' := Aside0.mk (HW.out.trans (hb.mono HW.out.size)); have c0 := (blk_cell HB'.out o).trans h0; have c1 := (blk_cell HB'.out (o + 1)).trans h1; have f0 := blk_frozen HB'.out o; have f1 := blk_frozen HB'.out (o + 1))
  all_goals go_end0
  all_goals refine ⟨rfl, ?_, (HW'.out.setCell hge _).setCell hge _, ((KeepBut.of_below hb B none).set_ _ _).set_ _ _⟩
  all_goals rw [← blk_set (blk_set HB'.out o (.bool true)) (o + 1) (.int .i64 (Own.leastOf true x n))]
  all_goals first
   | (rw [show Own.leastOf true x n = min n x by unfold Own.leastOf; rw [if_pos rfl, min_lt x n]]; done)
   | (rw [show Own.leastOf true x n = x by unfold Own.leastOf; rw [if_pos rfl, if_pos (by omega)]]; done)
   | (rw [show Own.leastOf true x n = n by unfold Own.leastOf; rw [if_pos rfl, if_neg (by omega)]]; done)
 | false =>
  go_enter Tryz.func80, Tryz.ntmps80;go_wp2_with (go_at_call 94; refine (hsec _).mono ?_; rintro e w' ⟨rfl, hb⟩; have HB' := Aside0.mk (blk_below HB.out hb); have HW' := Aside0.mk (HW.out.trans (hb.mono HW.out.size)); have c0 := (blk_cell HB'.out o).trans h0; have c1 := (blk_cell HB'.out (o + 1)).trans h1; have f0 := blk_frozen HB'.out o; have f1 := blk_frozen HB'.out (o + 1));go_end0;refine ⟨rfl, ?_, (HW'.out.setCell hge _).setCell hge _, ((KeepBut.of_below hb B none).set_ _ _).set_ _ _⟩;have := blk_set (blk_set HB'.out o (.bool true)) (o + 1) (.int .i64 (Own.leastOf false x n));rw [← this];rfl
set_option maxHeartbeats 1000000 in
set_option maxRecDepth 100000 in
theorem cc_greatest.own (B o : Nat) (h : Bool) (x : Int) (a : ByteArray) (k : Nat) (n : Int) (ok : Bool) (w0 w : World) (cs : Array Value) (hB : w.heap[B]? = some (.cells cs 54 (0, 0))) (h0 : cs[o]? = some (.bool h)) (h1 : cs[o + 1]? = some (.int .i64 x)) (hge : w0.heap.size ≤ B) (hW : Below w0.heap.size w0 w) (hs : cc_Seconds.f k a = some (n, ok)) :
  Calls Tryz.prog 81 #[.pointer (some ⟨B, o, none⟩), .string a] w fun e w' => e = .returned (.tuple #[]) ∧ w'.heap[B]? = some (.cells ((cs.setIfInBounds o (.bool true)).setIfInBounds (o + 1) (.int .i64 (Own.greatestOf x (if ok = true then n else 2147483648)))) 54 (0, 0)) ∧ Below w0.heap.size w0 w' ∧ KeepBut w w' B none := by
 have hu33 := Tryz.underlying52;(have hsec := fun w => cc_Seconds.calls k a n ok w hs);have HB := Aside0.mk hB;have HW := Aside0.mk hW;clear hB hW
 cases ok with
 | true =>
  go_enter Tryz.func81, Tryz.ntmps81;go_wp2_with (go_at_call 94; refine (hsec _).mono ?_; rintro e w' ⟨rfl, hb⟩; have HB' := Aside0.mk (blk_below HB.out hb); have HW' := Aside0.mk (HW.out.trans (hb.mono HW.out.size)); have c0 := (blk_cell HB'.out o).trans h0; have c1 := (blk_cell HB'.out (o + 1)).trans h1; have f0 := blk_frozen HB'.out o; have f1 := blk_frozen HB'.out (o + 1))
  all_goals go_end0
  all_goals refine ⟨rfl, ?_, (HW'.out.setCell hge _).setCell hge _, ((KeepBut.of_below hb B none).set_ _ _).set_ _ _⟩
  all_goals rw [← blk_set (blk_set HB'.out o (.bool true)) (o + 1) (.int .i64 (Own.greatestOf x (n)))]
  all_goals first
   | (rw [show Own.greatestOf x (n) = max (n) x by unfold Own.greatestOf; rw [max_lt]]; done)
   | (rw [show Own.greatestOf x (n) = x by unfold Own.greatestOf; rw [if_pos (by omega)]]; done)
   | (rw [show Own.greatestOf x (n) = (n) by unfold Own.greatestOf; rw [if_neg (by omega)]]; done)
 | false =>
  go_enter Tryz.func81, Tryz.ntmps81;go_wp2_with (go_at_call 94; refine (hsec _).mono ?_; rintro e w' ⟨rfl, hb⟩; have HB' := Aside0.mk (blk_below HB.out hb); have HW' := Aside0.mk (HW.out.trans (hb.mono HW.out.size)); have c0 := (blk_cell HB'.out o).trans h0; have c1 := (blk_cell HB'.out (o + 1)).trans h1; have f0 := blk_frozen HB'.out o; have f1 := blk_frozen HB'.out (o + 1))
  all_goals go_end0
  all_goals refine ⟨rfl, ?_, (HW'.out.setCell hge _).setCell hge _, ((KeepBut.of_below hb B none).set_ _ _).set_ _ _⟩
  all_goals rw [← blk_set (blk_set HB'.out o (.bool true)) (o + 1) (.int .i64 (Own.greatestOf x (2147483648)))]
  all_goals first
   | (rw [show Own.greatestOf x (2147483648) = max (2147483648) x by unfold Own.greatestOf; rw [max_lt]]; done)
   | (rw [show Own.greatestOf x (2147483648) = x by unfold Own.greatestOf; rw [if_pos (by omega)]]; done)
   | (rw [show Own.greatestOf x (2147483648) = (2147483648) by unfold Own.greatestOf; rw [if_neg (by omega)]]; done)
theorem act_10 (c : Own.Ctl) (has : Bool) (n : Int) (ok : Bool) : (c.cells.setIfInBounds 11 (.bool true)).setIfInBounds (11 + 1) (.int .i64 (Own.leastOf c.h0 c.n0 n)) = (c.act 10 has n ok).cells := by simp [Own.Ctl.act, Own.Ctl.cells]
theorem act_11 (c : Own.Ctl) (has : Bool) (n : Int) (ok : Bool) : (c.cells.setIfInBounds 13 (.bool true)).setIfInBounds (13 + 1) (.int .i64 (Own.leastOf c.h1 c.n1 n)) = (c.act 11 has n ok).cells := by simp [Own.Ctl.act, Own.Ctl.cells]
theorem act_12 (c : Own.Ctl) (has : Bool) (n : Int) (ok : Bool) : (c.cells.setIfInBounds 19 (.bool true)).setIfInBounds (19 + 1) (.int .i64 (Own.leastOf c.h4 c.n4 n)) = (c.act 12 has n ok).cells := by simp [Own.Ctl.act, Own.Ctl.cells]
theorem act_13 (c : Own.Ctl) (has : Bool) (n : Int) (ok : Bool) : (c.cells.setIfInBounds 17 (.bool true)).setIfInBounds (17 + 1) (.int .i64 (Own.greatestOf c.n3 (if ok = true then n else 2147483648))) = (c.act 13 has n ok).cells := by simp [Own.Ctl.act, Own.Ctl.cells]
theorem act_14 (c : Own.Ctl) (n : Int) (ok : Bool) : (c.cells.setIfInBounds 15 (.bool true)).setIfInBounds (15 + 1) (.int .i64 (Own.leastOf c.h2 c.n2 n)) = (c.act 14 true n ok).cells := by simp [Own.Ctl.act, Own.Ctl.cells]
theorem act_14n (c : Own.Ctl) (n : Int) (ok : Bool) : c.cells.setIfInBounds 10 (.bool true) = (c.act 14 false n ok).cells := by simp [Own.Ctl.act, Own.Ctl.cells]
theorem act_15 (c : Own.Ctl) (has : Bool) (n : Int) (ok : Bool) : (c.act 15 has n ok).cells = c.cells := by simp [Own.Ctl.act, Own.Ctl.cells]
set_option maxHeartbeats 1000000 in
set_option maxRecDepth 100000 in
theorem cc_take.flag (B j : Nat) (nm a : ByteArray) (has : Bool) (hfl : ∀ w, Calls Tryz.prog 79 #[.pointer (some ⟨B, 0, none⟩), .string nm] w fun e w' => e = .returned (.pointer (some ⟨B, j, none⟩)) ∧ w' = w) (b : Bool) (cs cs' : Array Value) (w0 w : World) (hB : w.heap[B]? = some (.cells cs 54 (0, 0))) (hc : cs[j]? = some (.bool b)) (hset : cs.setIfInBounds j (.bool true) = cs') (hge : w0.heap.size ≤ B) (hW : Below w0.heap.size w0 w) :
  Calls Tryz.prog 58 #[.pointer (some ⟨B, 0, none⟩), .string nm, .string a, .bool has] w fun e w' => e = .returned (.tuple #[]) ∧ w'.heap[B]? = some (.cells cs' 54 (0, 0)) ∧ Below w0.heap.size w0 w' ∧ KeepBut w w' B none := by
 have c0 := (blk_cell hB j).trans hc;have f0 := blk_frozen hB j;have HB := Aside0.mk hB;have HW := Aside0.mk hW;have HS := Aside0.mk hset;clear hB hW hset hc;go_enter Tryz.func58, Tryz.ntmps58;go_wp2_with (go_at_call 79; refine (hfl _).mono ?_; rintro e w' ⟨rfl, rfl⟩);refine bodyPost_ret (results_none rfl _ _ _) rfl ?_;exact ⟨rfl, by rw [← HS.out]; exact blk_set HB.out j _, HW.out.setCell hge _, (KeepBut.refl _ B none).set_ _ _⟩
set_option maxHeartbeats 1000000 in
set_option maxRecDepth 100000 in
theorem cc_take.rest (B : Nat) (nm a : ByteArray) (has : Bool) (hfl : ∀ w, Calls Tryz.prog 79 #[.pointer (some ⟨B, 0, none⟩), .string nm] w fun e w' => e = .returned (.pointer none) ∧ w' = w) (k : Nat) (n : Int) (ok : Bool) (w0 w : World) (c : Own.Ctl) (kd : Nat)
  (k10 : (nm.toList == [109, 97, 120, 45, 97, 103, 101]) = true → kd = 10) (k11 : (nm.toList == [115, 45, 109, 97, 120, 97, 103, 101]) = true → kd = 11) (k12 : (nm.toList == [115, 116, 97, 108, 101, 45, 105, 102, 45, 101, 114, 114, 111, 114]) = true → kd = 12) (k13 : (nm.toList == [109, 105, 110, 45, 102, 114, 101, 115, 104]) = true → kd = 13) (k14 : (nm.toList == [109, 97, 120, 45, 115, 116, 97, 108, 101]) = true → kd = 14)
  (k15 : (nm.toList == [109, 97, 120, 45, 97, 103, 101]) = false → (nm.toList == [115, 45, 109, 97, 120, 97, 103, 101]) = false → (nm.toList == [115, 116, 97, 108, 101, 45, 105, 102, 45, 101, 114, 114, 111, 114]) = false → (nm.toList == [109, 105, 110, 45, 102, 114, 101, 115, 104]) = false → (nm.toList == [109, 97, 120, 45, 115, 116, 97, 108, 101]) = false → kd = 15)
  (hB : w.heap[B]? = some (.cells c.cells 54 (0, 0))) (hge : w0.heap.size ≤ B) (hW : Below w0.heap.size w0 w) (hs : cc_Seconds.f k a = some (n, ok)) :
  Calls Tryz.prog 58 #[.pointer (some ⟨B, 0, none⟩), .string nm, .string a, .bool has] w fun e w' => e = .returned (.tuple #[]) ∧ w'.heap[B]? = some (.cells (c.act kd has n ok).cells 54 (0, 0)) ∧ Below w0.heap.size w0 w' ∧ KeepBut w w' B none := by
 have K10 := Aside0.mk k10;have K11 := Aside0.mk k11;have K12 := Aside0.mk k12;have K13 := Aside0.mk k13;have K14 := Aside0.mk k14;have K15 := Aside0.mk k15;have HB := Aside0.mk hB;have HW := Aside0.mk hW;have c10 := (blk_cell hB 10).trans (show c.cells[10]? = some (.bool c.b10) from rfl);have f10 := blk_frozen hB 10;have hu35 := Tryz.underlying54;have L11 := cc_least.own B 11 c.h0 c.n0 a k n ok w0 _ c.cells hB rfl rfl hge hW hs;have L13 := cc_least.own B 13 c.h1 c.n1 a k n ok w0 _ c.cells hB rfl rfl hge hW hs;have L15 := cc_least.own B 15 c.h2 c.n2 a k n ok w0 _ c.cells hB rfl rfl hge hW hs;have L19 := cc_least.own B 19 c.h4 c.n4 a k n ok w0 _ c.cells hB rfl rfl hge hW hs;have G17 := cc_greatest.own B 17 c.h3 c.n3 a k n ok w0 _ c.cells hB rfl rfl hge hW hs;clear k10 k11 k12 k13 k14 k15 hB hW;go_enter Tryz.func58, Tryz.ntmps58;go_wp2_with (first | (go_at_call 79; (with_reducible refine (hfl _).mono ?_); rintro e w' ⟨rfl, rfl⟩) | (go_at_call 80; (with_reducible refine L11.mono ?_); rintro e w' ⟨rfl, hq, hw, hk⟩) | (go_at_call 80; (with_reducible refine L13.mono ?_); rintro e w' ⟨rfl, hq, hw, hk⟩) | (go_at_call 80; (with_reducible refine L15.mono ?_); rintro e w' ⟨rfl, hq, hw, hk⟩) | (go_at_call 80; (with_reducible refine L19.mono ?_); rintro e w' ⟨rfl, hq, hw, hk⟩) | (go_at_call 81; (with_reducible refine G17.mono ?_); rintro e w' ⟨rfl, hq, hw, hk⟩))
 all_goals first | go_end0 | (refine bodyPost_ret (results_none rfl _ _ _) rfl ?_)
 all_goals (first
  | (obtain rfl := K10.out (by assumption); exact ⟨rfl, by rw [hq]; exact congrArg (fun z => some (Obj.cells z 54 (0, 0))) (act_10 c has n ok), hw, hk⟩)
  | (obtain rfl := K11.out (by assumption); exact ⟨rfl, by rw [hq]; exact congrArg (fun z => some (Obj.cells z 54 (0, 0))) (act_11 c has n ok), hw, hk⟩)
  | (obtain rfl := K12.out (by assumption); exact ⟨rfl, by rw [hq]; exact congrArg (fun z => some (Obj.cells z 54 (0, 0))) (act_12 c has n ok), hw, hk⟩)
  | (obtain rfl := K13.out (by assumption); exact ⟨rfl, by rw [hq]; exact congrArg (fun z => some (Obj.cells z 54 (0, 0))) (act_13 c has n ok), hw, hk⟩)
  | (obtain rfl := K14.out (by assumption); obtain rfl : has = true := (by assumption); exact ⟨rfl, by rw [hq]; exact congrArg (fun z => some (Obj.cells z 54 (0, 0))) (act_14 c n ok), hw, hk⟩)
  | (obtain rfl := K14.out (by assumption); obtain rfl : has = false := (by assumption); exact ⟨rfl, by rw [← act_14n c n ok]; exact blk_set HB.out 10 _, HW.out.setCell hge _, (KeepBut.refl _ B none).set_ _ _⟩)
  | (obtain rfl := K15.out (by assumption) (by assumption) (by assumption) (by assumption) (by assumption); exact ⟨rfl, by rw [act_15 c has n ok]; exact HB.out, HW.out, KeepBut.refl _ B none⟩))
theorem cc_take.own (B : Nat) (nm a : ByteArray) (has : Bool) (k : Nat) (n : Int) (ok : Bool) (w0 w : World) (c : Own.Ctl) (hB : w.heap[B]? = some (.cells c.cells 54 (0, 0))) (hge : w0.heap.size ≤ B) (hW : Below w0.heap.size w0 w) (hs : cc_Seconds.f k a = some (n, ok)) :
  Calls Tryz.prog 58 #[.pointer (some ⟨B, 0, none⟩), .string nm, .string a, .bool has] w fun e w' => e = .returned (.tuple #[]) ∧ w'.heap[B]? = some (.cells (c.act (Own.kindOf nm) has n ok).cells 54 (0, 0)) ∧ Below w0.heap.size w0 w' ∧ KeepBut w w' B none := by
 have hfl := fun w => cc_flag.own B nm w
 by_cases hk : Own.kindOf nm < 10
 ·rw [cc_flagAt_lt B nm rfl hk] at hfl
  have hc : ∃ b, c.cells[Own.kindOf nm]? = some (.bool b) := by
   generalize Own.kindOf nm = j at hk;(have : j = 0 ∨ j = 1 ∨ j = 2 ∨ j = 3 ∨ j = 4 ∨ j = 5 ∨ j = 6 ∨ j = 7 ∨ j = 8 ∨ j = 9 := by omega)
   rcases this with rfl | rfl | rfl | rfl | rfl | rfl | rfl | rfl | rfl | rfl <;> exact ⟨_, rfl⟩
  have hset : c.cells.setIfInBounds (Own.kindOf nm) (.bool true) = (c.act (Own.kindOf nm) has n ok).cells := by
   generalize Own.kindOf nm = j at hk;(have : j = 0 ∨ j = 1 ∨ j = 2 ∨ j = 3 ∨ j = 4 ∨ j = 5 ∨ j = 6 ∨ j = 7 ∨ j = 8 ∨ j = 9 := by omega)
   rcases this with rfl | rfl | rfl | rfl | rfl | rfl | rfl | rfl | rfl | rfl <;> simp [Own.Ctl.act, Own.Ctl.cells]
  obtain ⟨b, hc⟩ := hc;exact cc_take.flag B _ nm a has hfl b _ _ w0 w hB hc hset hge hW
 ·rw [cc_flagAt_ge B nm hk] at hfl
  refine cc_take.rest B nm a has hfl k n ok w0 w c (Own.kindOf nm) (fun h => ?_) (fun h => ?_) (fun h => ?_) (fun h => ?_) (fun h => ?_) (fun h1 h2 h3 h4 h5 => ?_) hB hge hW hs
  ·unfold Own.kindOf; rw [beq_iff_eq.1 h]; rfl
  ·unfold Own.kindOf; rw [beq_iff_eq.1 h]; rfl
  ·unfold Own.kindOf; rw [beq_iff_eq.1 h]; rfl
  ·unfold Own.kindOf; rw [beq_iff_eq.1 h]; rfl
  ·unfold Own.kindOf; rw [beq_iff_eq.1 h]; rfl
  ·unfold Own.kindOf at hk ⊢
   simp only [h1, h2, h3, h4, h5, Bool.false_eq_true, if_false] at hk ⊢
   (repeat' split) <;> first | rfl | (exfalso; revert hk; simp [*])
def cc_Parse.step (k : Nat) (c : Own.Ctl) (p : ByteArray) : Option Own.Ctl :=
 (strings_Cut.f p (⟨#[61]⟩ : ByteArray)).bind fun t => (head_Trim.f t.1).bind fun u => (head_Lower.f u).bind fun nm => (head_Trim.f t.2.1).bind fun b => (cc_unquoted.f b).bind fun a => (cc_Seconds.f k a).bind fun s => some (c.act (Own.kindOf nm) t.2.2 s.1 s.2)
def cc_Parse.steps (k : Nat) : List ByteArray → Own.Ctl → Option Own.Ctl
 | [], c => some c
 | p :: t, c => (cc_Parse.step k c p).bind fun c' => cc_Parse.steps k t c'
theorem cc_at_str {w : World} {A : Option Addr} {n : Nat} {xs : List ByteArray} (h : Kd.C Kd.string w A n xs) (i : Nat) (x : ByteArray) (hx : xs[i]? = some x) : ∃ ad, A = some ad ∧ w.cell? (ad.add i) = some (.string x) := by
 have hn := h.1;have hi := (List.getElem?_eq_some_iff.1 hx).1;obtain ⟨ad, e, hc⟩ := h.2.2 (by omega);obtain ⟨c, hl, hr, hcell⟩ := hc i x hx;refine ⟨ad, e, ?_⟩
 have := hcell 0 (.string x) (by
  have e : c = [.string x] := hr
  rw [e]; rfl)
 simpa [Kd.string, Kd.scalar] using this
/-- The world in a round: what was made before stands, the block of the answer holds c. -/
structure CcSt (w w2 : World) (B : Nat) (c : Own.Ctl) (W : World) : Prop where
 at_ : W.heap[B]? = some (.cells c.cells 54 (0, 0))
 below : Below w.heap.size w W
 keep : KeepBut w2 W B none
theorem CcSt.next {w w2 : World} {B : Nat} {c : Own.Ctl} {W W' : World} (h : CcSt w w2 B c W) (hb : Below W.heap.size W W') : CcSt w w2 B c W' :=
 ⟨blk_below h.at_ hb, h.below.trans (hb.mono h.below.size), h.keep.trans (KeepBut.of_below hb B none) (.inl rfl)⟩
theorem cc_below_setRow {B g : Nat} {w0 w : World} (hb : Below B w0 w) (hg : B ≤ g) (cs : Array Value) : Below B w0 (w.setRow g cs) :=
 ⟨hb.os, hb.tape, hb.output, by rw [setRow_size]; exact hb.size, fun k hk => (setRow_other w g k cs (by omega)).trans (hb.block k hk)⟩
theorem cc_info : (Tryz.prog.info? 54).map (·.size) = some 21 := by kernel_rfl
theorem cc_zero (w : World) : (w.alloc (.cells Own.Ctl.zero.cells 54)).heap[w.heap.size]? = some (.cells Own.Ctl.zero.cells 54 (0, 0)) := blk_new w _
set_option maxHeartbeats 1000000 in
set_option maxRecDepth 100000 in
theorem cc_Parse.own (k : Nat) (A : Option Addr) (c0 : Nat) (l ps : List ByteArray) (r : Own.Ctl) (w : World) (hr0 : Kd.C Kd.string w A l.length l) (hc0 : l.length ≤ c0) (hS : head_Split.f k l = some ps) (hF : cc_Parse.steps k ps Own.Ctl.zero = some r) :
  Calls Tryz.prog 40 #[.slice A l.length c0] w fun e w' => e = .returned (.agg r.fin.cells) ∧ Below w.heap.size w w' := by
 have hu35 := Tryz.underlying54;obtain ⟨wa, hwa⟩ : ∃ wa, wa = w.alloc (.cells #[.bool false, .bool false, .bool false, .bool false, .bool false, .bool false, .bool false, .bool false, .bool false, .bool false, .bool false, .bool false, .int .i64 0, .bool false, .int .i64 0, .bool false, .int .i64 0, .bool false, .int .i64 0, .bool false, .int .i64 0] 54) := ⟨_, rfl⟩;obtain ⟨w1, hw1⟩ : ∃ w1, w1 = wa.alloc (.cells #[.bool false, .bool false, .bool false, .bool false, .bool false, .bool false, .bool false, .bool false, .bool false, .bool false, .bool false, .bool false, .int .i64 0, .bool false, .int .i64 0, .bool false, .int .i64 0, .bool false, .int .i64 0, .bool false, .int .i64 0] 54) := ⟨_, rfl⟩;(have hba : Below w.heap.size w wa := by rw [hwa]; exact (Below.refl _ w).alloc (Nat.le_refl _) _);(have hsa : wa.heap.size = w.heap.size + 1 := by rw [hwa, World.size_alloc]);(have hza : wa.heap[w.heap.size]? = some (.cells Own.Ctl.zero.cells 54 (0, 0)) := by rw [hwa]; exact blk_new w _);(have hb1 : Below w.heap.size w w1 := by rw [hw1]; exact hba.alloc (by omega) _);(have hs1 : w1.heap.size = w.heap.size + 2 := by rw [hw1, World.size_alloc, hsa]);(have hz0 : w1.heap[w.heap.size]? = some (.cells Own.Ctl.zero.cells 54 (0, 0)) := by rw [hw1]; exact blk_alloc hza _);(have hz1 : w1.heap[w.heap.size + 1]? = some (.cells Own.Ctl.zero.cells 54 (0, 0)) := by rw [hw1, ← hsa]; exact blk_new wa _);have hsp := head_Split.calls k A c0 l ps w1 (Kd.C_below hr0 hb1) hc0 hS;have HB1 := Aside0.mk hb1;have HS1 := Aside0.mk hs1;have HZ1 := Aside0.mk hz1;have HZ0 := Aside0.mk hz0;clear hb1 hs1 hz1 hz0 hr0 hS hza hba;go_enter Tryz.func40, Tryz.ntmps40;go_wp2_with (first | (go_at_call 41; rw [← hwa, ← hw1]; (with_reducible refine hsp.mono ?_); rintro e w2 ⟨v, rfl, hR, hB2⟩; obtain ⟨A2, c2, rfl, hc2, hC2⟩ := Kd.R_reads hR));have HB2 := Aside0.mk (HB1.out.trans (hB2.mono (by have := HS1.out; omega)));have HZ2 := Aside0.mk (blk_below HZ1.out hB2);have HZ20 := Aside0.mk (blk_below HZ0.out hB2);have HC2 := Aside0.mk hC2;have HF := Aside0.mk hF;have hlen : ps.length ≤ 9223372036854775807 := hC2.2.1;have HA2 : Aside0 (some (w.heap.size + 1) ≠ (Value.slice A2 ps.length c2).ownBlock) := ⟨Kd.R_ne hR HZ2.out (by decide)⟩;clear hB2 hC2 hF hR hsp hwa hw1 hsa;go_loopg [12] ps.length (fun gg i wr => ∃ n : Nat, i = .int .i64 n ∧ n ≤ ps.length ∧ ps.length - n ≤ gg ∧ ∃ c : Own.Ctl, Aside0 (cc_Parse.steps k (ps.drop n) c = some r) ∧ Aside0 (CcSt w w2 (w.heap.size + 1) c wr))
 case atStart => exact ⟨0, rfl, by omega, by omega, _, ⟨HF.out⟩, ⟨⟨HZ2.out, HB2.out, KeepBut.refl _ _ _⟩⟩⟩
 case round =>
  obtain ⟨n, rfl, hn, hgg, c, hst, hS0⟩ := hrel
  by_cases hlt : n < ps.length
  ·have hx : ps[n]? = some ps[n] := List.getElem?_eq_getElem hlt
   have q1 : decide ((n : Int) < (ps.length : Int)) = true := decide_eq_true (by omega);obtain ⟨ad, rfl, hx0⟩ := cc_at_str HC2.out n _ hx
   replace hx0 : wr.cell? (ad.add n) = some (.string ps[n]) := by
    have hl := World.block_lt_of_cell? w2 _ hx0;(have hne : (ad.add n).block ≠ w.heap.size + 1 := fun e => HA2.out (by rw [← e]; simp [Value.ownBlock, Addr.add]; split <;> rfl));have := hS0.out.keep.2 (ad.add n).block hl hne (by simp);rw [← hx0]; unfold World.cell?; rw [this]
   have p5 := eq_true (show (0 : Int) ≤ (n : Int) by omega);have q5 := eq_true (show (n : Int) < (ps.length : Int) by omega);have hd : ps.drop n = ps[n] :: ps.drop (n + 1) := List.drop_eq_getElem_cons hlt;have hst' := hst.out;rw [hd] at hst';clear hd hx hst;generalize ps[n] = x at *;obtain ⟨c', hc1, hc2⟩ := Option.bind_eq_some_iff.1 (show (cc_Parse.step k c x).bind (fun c' => cc_Parse.steps k (ps.drop (n + 1)) c') = some r from hst');clear hst'
   unfold cc_Parse.step at hc1
   obtain ⟨⟨t1, t2, t3⟩, e1, hc1⟩ := Option.bind_eq_some_iff.1 hc1;obtain ⟨u, e2, hc1⟩ := Option.bind_eq_some_iff.1 hc1;obtain ⟨nm, e3, hc1⟩ := Option.bind_eq_some_iff.1 hc1;obtain ⟨b, e4, hc1⟩ := Option.bind_eq_some_iff.1 hc1;obtain ⟨a, e5, hc1⟩ := Option.bind_eq_some_iff.1 hc1;obtain ⟨⟨s1, s2⟩, e6, hc1⟩ := Option.bind_eq_some_iff.1 hc1;(have k1 := fun w => strings_Cut.calls x _ t1 t2 t3 w e1);(have k2 := fun w => head_Trim.calls t1 u w e2);(have k3 := fun w => head_Lower.calls u nm w e3);(have k4 := fun w => head_Trim.calls t2 b w e4);(have k5 := fun w => cc_unquoted.calls b a w e5);have E6 := Aside0.mk e6;have HC1 := Aside0.mk (Option.some.inj hc1);have HC2' := Aside0.mk hc2;clear hc1 hc2 e1 e2 e3 e4 e5 e6;go_wp2_with (first | (go_at_call 57; (with_reducible refine (k1 _).mono ?_); rintro e w3 ⟨rfl, hb⟩; have S1 := Aside0.mk (hS0.out.next hb); clear hb) | (go_at_call 43; (with_reducible refine (k2 _).mono ?_); rintro e w4 ⟨rfl, hb⟩; have S2 := Aside0.mk (S1.out.next hb); clear hb k2) | (go_at_call 42; (with_reducible refine (k3 _).mono ?_); rintro e w5 ⟨rfl, hb⟩; have S3 := Aside0.mk (S2.out.next hb); clear hb) | (go_at_call 43; (with_reducible refine (k4 _).mono ?_); rintro e w6 ⟨rfl, hb⟩; have S4 := Aside0.mk (S3.out.next hb); clear hb) | (go_at_call 59; (with_reducible refine (k5 _).mono ?_); rintro e w7 ⟨rfl, hb⟩; have S5 := Aside0.mk (S4.out.next hb.below); clear hb; have k6 := cc_take.own (w.heap.size + 1) nm a t3 k s1 s2 w w7 c S5.out.at_ (by omega) S5.out.below E6.out) | (go_at_call 58; (with_reducible refine k6.mono ?_); rintro e w8 ⟨rfl, hq, hw, hk⟩; have S6 : Aside0 (CcSt w w2 (w.heap.size + 1) c' w8) := ⟨⟨by rw [hq, HC1.out], hw, S5.out.keep.trans hk (.inl rfl)⟩⟩; clear hq hw hk k6));go_roundg (ps.length - (n + 1))
   case measure => omega
   case rel => exact ⟨n + 1, rfl, by omega, by omega, c', HC2', S6⟩
  ·have q1 : decide ((n : Int) < (ps.length : Int)) = false := decide_eq_false (by omega)
   have hd : ps.drop n = [] := List.drop_eq_nil_of_le (by omega);have hst' := hst.out;rw [hd] at hst';obtain rfl : c = r := Option.some.inj hst';have hc10 := (blk_cell hS0.out.at_ 10).trans (show c.cells[10]? = some (.bool c.b10) from rfl);have hc15 := (blk_cell hS0.out.at_ 15).trans (show c.cells[15]? = some (.bool c.h2) from rfl);have hf10 := blk_frozen hS0.out.at_ 10;have hu33 := Tryz.underlying52;clear hd hst';have hres : wr.heap[w.heap.size]? = some (.cells Own.Ctl.zero.cells 54 (0, 0)) := (hS0.out.keep.2 w.heap.size (blk_lt HZ20.out) (by omega) (by simp)).trans HZ20.out
   have hfin : ∀ v : Bool, (c.b10 && !c.h2) = v → (wr.setCell ⟨w.heap.size + 1, 10, none⟩ (.bool v)).heap[w.heap.size + 1]? = some (.cells c.fin.cells 54 (0, 0)) := fun v hv => by
    rw [blk_set hS0.out.at_ 10];subst hv;rfl
   (have hres2 : ∀ v : Bool, (wr.setCell ⟨w.heap.size + 1, 10, none⟩ (.bool v)).heap[w.heap.size]? = some (.cells Own.Ctl.zero.cells 54 (0, 0)) := fun v => blk_far hres (by show w.heap.size ≠ w.heap.size + 1; omega) _);(have hbel : ∀ v : Bool, Below w.heap.size w ((wr.setCell ⟨w.heap.size + 1, 10, none⟩ (.bool v)).setRow w.heap.size c.fin.cells) := fun v => cc_below_setRow (hS0.out.below.setCell (Nat.le_succ _) _) (Nat.le_refl _) _);(have hback : ∀ v : Bool, ((wr.setCell ⟨w.heap.size + 1, 10, none⟩ (.bool v)).setRow w.heap.size c.fin.cells).heap[w.heap.size]? = some (.cells c.fin.cells 54 (0, 0)) := fun v => setRow_heap _ _ _ _ _ _ (hres2 v));obtain ⟨fc, hfc⟩ : ∃ fc, fc = c.fin.cells := ⟨_, rfl⟩;(have hsz : some 21 = some fc.size := by rw [hfc]; rfl);(have hone : fc.all (·.oneCell') = true := by rw [hfc]; simp [Own.Ctl.cells, Value.oneCell']);rw [← hfc] at hfin hbel hback;have HFC := Aside0.mk hfc;have HFIN := Aside0.mk hfin;have HRES := Aside0.mk hres2;have HBEL := Aside0.mk hbel;have HBK := Aside0.mk hback;clear hfc hfin hres2 hbel hback hres
   cases hb : c.b10 with
   | true =>
    cases hh : c.h2 with
    | true =>
     have HV := HFIN.out false (by rw [hb, hh]; rfl);rw [hb] at hc10;rw [hh] at hc15;clear hb hh;go_wp2_with (first | ((with_reducible refine gate_dst (N:=40) rfl ?_); refine wpList_load_row rfl 54 (.tmp 3) rfl (w.heap.size + 1) rfl 54 fc (0, 0) _ HV hu35 rfl (cc_info.trans hsz) ?_) | ((with_reducible refine gate_store (t:=54) rfl ?_); refine wpList_store_row rfl 54 (.tmp 2) (.tmp 40) rfl w.heap.size fc rfl rfl 54 Own.Ctl.zero.cells (HRES.out false) (cc_info.trans hsz) (by rw [← Option.some.inj hsz]; rfl) hone ?_));refine bodyPost_ret (results_cell_row rfl _ _ w.heap.size 54 fc (0, 0) _ rfl (HBK.out false) hu35 rfl (cc_info.trans hsz)) rfl ?_;exact ⟨by rw [HFC.out], HBEL.out false⟩
    | false =>
     have HV := HFIN.out true (by rw [hb, hh]; rfl);rw [hb] at hc10;rw [hh] at hc15;clear hb hh;go_wp2_with (first | ((with_reducible refine gate_dst (N:=40) rfl ?_); refine wpList_load_row rfl 54 (.tmp 3) rfl (w.heap.size + 1) rfl 54 fc (0, 0) _ HV hu35 rfl (cc_info.trans hsz) ?_) | ((with_reducible refine gate_store (t:=54) rfl ?_); refine wpList_store_row rfl 54 (.tmp 2) (.tmp 40) rfl w.heap.size fc rfl rfl 54 Own.Ctl.zero.cells (HRES.out true) (cc_info.trans hsz) (by rw [← Option.some.inj hsz]; rfl) hone ?_));refine bodyPost_ret (results_cell_row rfl _ _ w.heap.size 54 fc (0, 0) _ rfl (HBK.out true) hu35 rfl (cc_info.trans hsz)) rfl ?_;exact ⟨by rw [HFC.out], HBEL.out true⟩
   | false =>
    have HV := HFIN.out false (by rw [hb]; rfl);rw [hb] at hc10;clear hb;go_wp2_with (first | ((with_reducible refine gate_dst (N:=40) rfl ?_); refine wpList_load_row rfl 54 (.tmp 3) rfl (w.heap.size + 1) rfl 54 fc (0, 0) _ HV hu35 rfl (cc_info.trans hsz) ?_) | ((with_reducible refine gate_store (t:=54) rfl ?_); refine wpList_store_row rfl 54 (.tmp 2) (.tmp 40) rfl w.heap.size fc rfl rfl 54 Own.Ctl.zero.cells (HRES.out false) (cc_info.trans hsz) (by rw [← Option.some.inj hsz]; rfl) hone ?_));refine bodyPost_ret (results_cell_row rfl _ _ w.heap.size 54 fc (0, 0) _ rfl (HBK.out false) hu35 rfl (cc_info.trans hsz)) rfl ?_;exact ⟨by rw [HFC.out], HBEL.out false⟩
def cc_Parse.f (k : Nat) (l0 : List ByteArray) : Option (Bool × Bool × Bool × Bool × Bool × Bool × Bool × Bool × Bool × Bool × Bool × Bool × Int × Bool × Int × Bool × Int × Bool × Int × Bool × Int) :=
 (head_Split.f k l0).bind fun ps => (cc_Parse.steps k ps Own.Ctl.zero).bind fun c => some c.fin.tup
theorem cc_Parse.mono_steps (k : Nat) : ∀ (ps : List ByteArray) (c : Own.Ctl), LeO (cc_Parse.steps k ps c) (cc_Parse.steps (k + 1) ps c)
 | [], c => LeO.refl _
 | p :: t, c => by
  unfold cc_Parse.steps cc_Parse.step
  refine LeO.bind ?_ (fun _ => cc_Parse.mono_steps k t _);(exact LeO.bind (LeO.refl _) fun _ => LeO.bind (LeO.refl _) fun _ => LeO.bind (LeO.refl _) fun _ => LeO.bind (LeO.refl _) fun _ => LeO.bind (LeO.refl _) fun _ => LeO.bind (cc_Seconds.mono _ k) fun _ => LeO.refl _)
theorem cc_Parse.mono : ∀ a0 k, LeO (cc_Parse.f k a0) (cc_Parse.f (k + 1) a0) := by
 intro a0 k
 unfold cc_Parse.f
 exact LeO.bind (head_Split.mono _ k) fun _ => LeO.bind (cc_Parse.mono_steps k _ _) fun _ => LeO.refl _
theorem cc_Parse.calls (k : Nat) (A0 : Option Addr) (c0 : Nat) (l0 : List ByteArray) (r1 : Bool) (r2 : Bool) (r3 : Bool) (r4 : Bool) (r5 : Bool) (r6 : Bool) (r7 : Bool) (r8 : Bool) (r9 : Bool) (r10 : Bool) (r11 : Bool) (r12 : Bool) (r13 : Int) (r14 : Bool) (r15 : Int) (r16 : Bool) (r17 : Int) (r18 : Bool) (r19 : Int) (r20 : Bool) (r21 : Int) (w : World) (hr0 : Kd.C Kd.string w A0 l0.length l0) (hc0 : l0.length ≤ c0) (h : cc_Parse.f k l0 = some (r1, r2, r3, r4, r5, r6, r7, r8, r9, r10, r11, r12, r13, r14, r15, r16, r17, r18, r19, r20, r21)) :
  Calls Tryz.prog 40 #[.slice A0 l0.length c0] w fun e w' => e = .returned (.agg #[.bool r1, .bool r2, .bool r3, .bool r4, .bool r5, .bool r6, .bool r7, .bool r8, .bool r9, .bool r10, .bool r11, .bool r12, .int .i64 r13, .bool r14, .int .i64 r15, .bool r16, .int .i64 r17, .bool r18, .int .i64 r19, .bool r20, .int .i64 r21]) ∧ Below w.heap.size w w' := by
 unfold cc_Parse.f at h
 obtain ⟨ps, h1, h⟩ := Option.bind_eq_some_iff.1 h;obtain ⟨c, h2, h⟩ := Option.bind_eq_some_iff.1 h;have h := Option.some.inj h
 unfold Own.Ctl.tup at h
 simp only [Prod.mk.injEq] at h;obtain ⟨rfl, rfl, rfl, rfl, rfl, rfl, rfl, rfl, rfl, rfl, rfl, rfl, rfl, rfl, rfl, rfl, rfl, rfl, rfl, rfl, rfl⟩ := h;exact cc_Parse.own k A0 c0 l0 ps c w hr0 hc0 h1 h2
def ccR (k : Nat) (v : List ByteArray) : Option Own.Ctl := (head_Split.f k v).bind fun ps => (cc_Parse.steps k ps Own.Ctl.zero).bind fun c => some c.fin
theorem ccR_mono (k : Nat) (v : List ByteArray) : LeO (ccR k v) (ccR (k + 1) v) := LeO.bind (head_Split.mono _ k) fun _ => LeO.bind (cc_Parse.mono_steps k _ _) fun _ => LeO.refl _
theorem ccR_calls (k : Nat) (A : Option Addr) (c0 : Nat) (l : List ByteArray) (c : Own.Ctl) (w : World) (hr0 : Kd.C Kd.string w A l.length l) (hc0 : l.length ≤ c0) (h : ccR k l = some c) :
  Calls Tryz.prog 40 #[.slice A l.length c0] w fun e w' => e = .returned (.agg c.cells) ∧ Below w.heap.size w w' := by
 unfold ccR at h
 obtain ⟨ps, h1, h⟩ := Option.bind_eq_some_iff.1 h;obtain ⟨c1, h2, h⟩ := Option.bind_eq_some_iff.1 h;obtain rfl := Option.some.inj h;exact cc_Parse.own k A c0 l ps c1 w hr0 hc0 h1 h2
end Go.Proofs.YtfjeagglminhoaaGreatDoor.Q
