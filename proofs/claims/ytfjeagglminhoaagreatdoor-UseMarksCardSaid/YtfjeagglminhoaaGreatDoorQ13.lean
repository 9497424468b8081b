-- Written by a program of this session's (wip/xprint.py), out of the seat's translation.
import Derived.Test.YtfjeagglminhoaaGreatDoorQ0
import Derived.Test.YtfjeagglminhoaaGreatDoorQ4
import Derived.Test.YtfjeagglminhoaaGreatDoorQ10
import Derived.Test.YtfjeagglminhoaaGreatDoorQ11
import Derived.Test.YtfjeagglminhoaaGreatDoorQ12
import Derived.Test.YtfjeagglminhoaaGreatDoorSh
namespace Go.Proofs.YtfjeagglminhoaaGreatDoor.Q
open Go.RowKit Go.Proofs.YtfjeagglminhoaaGreatDoorW.PrintWords Go.Proofs.YtfjeagglminhoaaGreatDoorW.PrintLast Go.Proofs.YtfjeagglminhoaaGreatDoorW.PrintMore
open Go.Proofs.YtfjeagglminhoaaGreatDoor.Own (Y Z sA sB sC)
open Go.Proofs.YtfjeagglminhoaaGreatDoor.Sh
attribute [local go_sem] max2_int min2_int max_two min_two max_three min_three max_four min_four   -- for this text's walks alone
set_option linter.unusedVariables false
set_option linter.unusedSimpArgs false
/-! ### sprlaw21_UseMarks: function 3 -/
mutual
def sprlaw21_UseMarks.j0 : Nat → List (S33) → List (List (S33)) → List (S33) → Bool → Option (Bool)
 | 0, _, _, _, _ => none
 | k + 1, x0, x1, x2, x35 => if x35 = true then ((sprlaw21_first.f k).bind fun t351 => (some t351)) else (sprlaw21_UseMarks.l0 k x0 x1 x2 0)
def sprlaw21_UseMarks.l0 : Nat → List (S33) → List (List (S33)) → List (S33) → Int → Option (Bool)
 | 0, _, _, _, _ => none
 | k + 1, x0, x1, x2, x7 => if x7 < (x1.length : Int) then (if 0 ≤ x7 then ((sprlaw13_Few.f k (rd_L2 x1 x7)).bind fun t353 => (if t353 = true then (if ((rd_L2 x1 x7).length : Int) > 20 then ((sprlaw21_first.f k).bind fun t355 => (some t355)) else (sprlaw21_UseMarks.l0 k x0 x1 x2 (wrap64 (x7 + 1)))) else ((sprlaw21_first.f k).bind fun t356 => (some t356)))) else (none)) else ((use_Ask.f k x0 x1 x2).bind fun t357 => (if (t357.length : Int) < (x0.length : Int) then (sprlaw21_UseMarks.j2 k x0 x1 x2 t357 true) else (if (t357.length : Int) > (wrap64 ((x0.length : Int) + 2)) then (sprlaw21_UseMarks.j2 k x0 x1 x2 t357 true) else (if 0 ≤ (x0.length : Int) then (if (x0.length : Int) ≤ (t357.length : Int) then ((sprref_Fields.f k (t357.take ((x0.length : Int) : Int).toNat) x0).bind fun t364 => (sprlaw21_UseMarks.j2 k x0 x1 x2 t357 (!t364))) else (none)) else (none)))))
def sprlaw21_UseMarks.j2 : Nat → List (S33) → List (List (S33)) → List (S33) → List (S33) → Bool → Option (Bool)
 | 0, _, _, _, _, _ => none
 | k + 1, x0, x1, x2, x8, x83 => if x83 = true then (some false) else ((use_Marks.f k x2).bind fun bt365 => (sprlaw21_UseMarks.l1 k x1 x8 bt365.2.2.2.1 bt365.2.2.2.2 (x0.length : Int)))
def sprlaw21_UseMarks.l1 : Nat → List (List (S33)) → List (S33) → ByteArray → Bool → Int → Option (Bool)
 | 0, _, _, _, _, _ => none
 | k + 1, x1, x8, x11, x12, x13 => if x13 < (x8.length : Int) then (if 0 ≤ x13 then (if ((rd_T33 x8 x13).f0).toList = ([73, 102, 45, 77, 111, 100, 105, 102, 105, 101, 100, 45, 83, 105, 110, 99, 101] : List UInt8) then (if x12 = true then (if ((rd_T33 x8 x13).f1).toList = x11.toList then (sprlaw21_UseMarks.l1 k x1 x8 x11 x12 (wrap64 (x13 + 1))) else (some false)) else (some false)) else (if ((rd_T33 x8 x13).f0).toList = ([73, 102, 45, 78, 111, 110, 101, 45, 77, 97, 116, 99, 104] : List UInt8) then (sprlaw21_UseMarks.l2 k x1 x8 x11 x12 x13 0) else (some false))) else (none)) else ((sprlaw21_first.f k).bind fun t371 => (some t371))
def sprlaw21_UseMarks.l2 : Nat → List (List (S33)) → List (S33) → ByteArray → Bool → Int → Int → Option (Bool)
 | 0, _, _, _, _, _, _ => none
 | k + 1, x1, x8, x11, x12, x13, x14 => if x14 < (x1.length : Int) then (if 0 ≤ x14 then ((use_Marks.f k (rd_L2 x1 x14)).bind fun bt375 => ((etag_Print.f k bt375.1 bt375.2.1).bind fun bt381 => (if bt375.2.2.1 = true then (if bt381.2 = true then (if 0 ≤ x13 then (if x13 < (x8.length : Int) then ((sprlaw21_within.f k ((rd_T33 x8 x13).f1) bt381.1).bind fun t384 => (if t384 = true then (sprlaw21_UseMarks.l2 k x1 x8 x11 x12 x13 (wrap64 (x14 + 1))) else (some false))) else (none)) else (none)) else (some false)) else (sprlaw21_UseMarks.l2 k x1 x8 x11 x12 x13 (wrap64 (x14 + 1)))))) else (none)) else (sprlaw21_UseMarks.l1 k x1 x8 x11 x12 (wrap64 (x13 + 1)))
end
def sprlaw21_UseMarks.f (k : Nat) (l0 : List (S33)) (l1 : List (List (S33))) (l2 : List (S33)) : Option (Bool) := (sprlaw21_first.f k).bind fun t348 => (if t348 = true then ((sprlaw13_Few.f k l0).bind fun t349 => (if t349 = true then ((sprlaw13_Few.f k l2).bind fun t350 => (if t350 = true then (sprlaw21_UseMarks.j0 k l0 l1 l2 (decide ((l1.length : Int) > 20))) else (sprlaw21_UseMarks.j0 k l0 l1 l2 true))) else (sprlaw21_UseMarks.j0 k l0 l1 l2 true))) else (some false))
theorem sprlaw21_UseMarks.mono_l : ∀ k, (∀ y0 y1 y2 y3, LeO (sprlaw21_UseMarks.j0 k y0 y1 y2 y3) (sprlaw21_UseMarks.j0 (k + 1) y0 y1 y2 y3)) ∧ (∀ y0 y1 y2 y3, LeO (sprlaw21_UseMarks.l0 k y0 y1 y2 y3) (sprlaw21_UseMarks.l0 (k + 1) y0 y1 y2 y3)) ∧ (∀ y0 y1 y2 y3 y4, LeO (sprlaw21_UseMarks.j2 k y0 y1 y2 y3 y4) (sprlaw21_UseMarks.j2 (k + 1) y0 y1 y2 y3 y4)) ∧ (∀ y0 y1 y2 y3 y4, LeO (sprlaw21_UseMarks.l1 k y0 y1 y2 y3 y4) (sprlaw21_UseMarks.l1 (k + 1) y0 y1 y2 y3 y4)) ∧ (∀ y0 y1 y2 y3 y4 y5, LeO (sprlaw21_UseMarks.l2 k y0 y1 y2 y3 y4 y5) (sprlaw21_UseMarks.l2 (k + 1) y0 y1 y2 y3 y4 y5))
 | 0 => ⟨fun _ _ _ _ r h => by simp [sprlaw21_UseMarks.j0] at h, fun _ _ _ _ r h => by simp [sprlaw21_UseMarks.l0] at h, fun _ _ _ _ _ r h => by simp [sprlaw21_UseMarks.j2] at h, fun _ _ _ _ _ r h => by simp [sprlaw21_UseMarks.l1] at h, fun _ _ _ _ _ _ r h => by simp [sprlaw21_UseMarks.l2] at h⟩
 | k + 1 => by
  obtain ⟨ih0, ih1, ih2, ih3, ih4⟩ := sprlaw21_UseMarks.mono_l k;refine ⟨?_, ?_, ?_, ?_, ?_⟩
  ·intro y0 y1 y2 y3
   unfold sprlaw21_UseMarks.j0
   repeat' first
   | (with_reducible exact ih0 _ _ _ _)
   | (with_reducible exact ih1 _ _ _ _)
   | (with_reducible exact ih2 _ _ _ _ _)
   | (with_reducible exact ih3 _ _ _ _ _)
   | (with_reducible exact ih4 _ _ _ _ _ _)
   | (with_reducible exact etag_Print.mono _ _ _)
   | (with_reducible exact sprlaw13_Few.mono _ _)
   | (with_reducible exact sprlaw21_first.mono _)
   | (with_reducible exact sprlaw21_within.mono _ _ _)
   | (with_reducible exact sprref_Fields.mono _ _ _)
   | (with_reducible exact use_Ask.mono _ _ _ _)
   | (with_reducible exact use_Marks.mono _ _)
   | (with_reducible exact LeO.refl _)
   | (with_reducible exact LeO.none _)
   | (with_reducible refine LeO.ite ?_ ?_)
   | (with_reducible refine LeO.bind ?_ (fun _ => ?_))
   | exact ih0 _ _ _ _
   | exact ih1 _ _ _ _
   | exact ih2 _ _ _ _ _
   | exact ih3 _ _ _ _ _
   | exact ih4 _ _ _ _ _ _
   | exact etag_Print.mono _ _ _
   | exact sprlaw13_Few.mono _ _
   | exact sprlaw21_first.mono _
   | exact sprlaw21_within.mono _ _ _
   | exact sprref_Fields.mono _ _ _
   | exact use_Ask.mono _ _ _ _
   | exact use_Marks.mono _ _
   | exact LeO.none _
   | refine LeO.ite ?_ ?_
   | refine LeO.bind ?_ (fun _ => ?_)
  ·intro y0 y1 y2 y3
   unfold sprlaw21_UseMarks.l0
   repeat' first
   | (with_reducible exact ih0 _ _ _ _)
   | (with_reducible exact ih1 _ _ _ _)
   | (with_reducible exact ih2 _ _ _ _ _)
   | (with_reducible exact ih3 _ _ _ _ _)
   | (with_reducible exact ih4 _ _ _ _ _ _)
   | (with_reducible exact etag_Print.mono _ _ _)
   | (with_reducible exact sprlaw13_Few.mono _ _)
   | (with_reducible exact sprlaw21_first.mono _)
   | (with_reducible exact sprlaw21_within.mono _ _ _)
   | (with_reducible exact sprref_Fields.mono _ _ _)
   | (with_reducible exact use_Ask.mono _ _ _ _)
   | (with_reducible exact use_Marks.mono _ _)
   | (with_reducible exact LeO.refl _)
   | (with_reducible exact LeO.none _)
   | (with_reducible refine LeO.ite ?_ ?_)
   | (with_reducible refine LeO.bind ?_ (fun _ => ?_))
   | exact ih0 _ _ _ _
   | exact ih1 _ _ _ _
   | exact ih2 _ _ _ _ _
   | exact ih3 _ _ _ _ _
   | exact ih4 _ _ _ _ _ _
   | exact etag_Print.mono _ _ _
   | exact sprlaw13_Few.mono _ _
   | exact sprlaw21_first.mono _
   | exact sprlaw21_within.mono _ _ _
   | exact sprref_Fields.mono _ _ _
   | exact use_Ask.mono _ _ _ _
   | exact use_Marks.mono _ _
   | exact LeO.none _
   | refine LeO.ite ?_ ?_
   | refine LeO.bind ?_ (fun _ => ?_)
  ·intro y0 y1 y2 y3 y4
   unfold sprlaw21_UseMarks.j2
   repeat' first
   | (with_reducible exact ih0 _ _ _ _)
   | (with_reducible exact ih1 _ _ _ _)
   | (with_reducible exact ih2 _ _ _ _ _)
   | (with_reducible exact ih3 _ _ _ _ _)
   | (with_reducible exact ih4 _ _ _ _ _ _)
   | (with_reducible exact etag_Print.mono _ _ _)
   | (with_reducible exact sprlaw13_Few.mono _ _)
   | (with_reducible exact sprlaw21_first.mono _)
   | (with_reducible exact sprlaw21_within.mono _ _ _)
   | (with_reducible exact sprref_Fields.mono _ _ _)
   | (with_reducible exact use_Ask.mono _ _ _ _)
   | (with_reducible exact use_Marks.mono _ _)
   | (with_reducible exact LeO.refl _)
   | (with_reducible exact LeO.none _)
   | (with_reducible refine LeO.ite ?_ ?_)
   | (with_reducible refine LeO.bind ?_ (fun _ => ?_))
   | exact ih0 _ _ _ _
   | exact ih1 _ _ _ _
   | exact ih2 _ _ _ _ _
   | exact ih3 _ _ _ _ _
   | exact ih4 _ _ _ _ _ _
   | exact etag_Print.mono _ _ _
   | exact sprlaw13_Few.mono _ _
   | exact sprlaw21_first.mono _
   | exact sprlaw21_within.mono _ _ _
   | exact sprref_Fields.mono _ _ _
   | exact use_Ask.mono _ _ _ _
   | exact use_Marks.mono _ _
   | exact LeO.none _
   | refine LeO.ite ?_ ?_
   | refine LeO.bind ?_ (fun _ => ?_)
  ·intro y0 y1 y2 y3 y4
   unfold sprlaw21_UseMarks.l1
   repeat' first
   | (with_reducible exact ih0 _ _ _ _)
   | (with_reducible exact ih1 _ _ _ _)
   | (with_reducible exact ih2 _ _ _ _ _)
   | (with_reducible exact ih3 _ _ _ _ _)
   | (with_reducible exact ih4 _ _ _ _ _ _)
   | (with_reducible exact etag_Print.mono _ _ _)
   | (with_reducible exact sprlaw13_Few.mono _ _)
   | (with_reducible exact sprlaw21_first.mono _)
   | (with_reducible exact sprlaw21_within.mono _ _ _)
   | (with_reducible exact sprref_Fields.mono _ _ _)
   | (with_reducible exact use_Ask.mono _ _ _ _)
   | (with_reducible exact use_Marks.mono _ _)
   | (with_reducible exact LeO.refl _)
   | (with_reducible exact LeO.none _)
   | (with_reducible refine LeO.ite ?_ ?_)
   | (with_reducible refine LeO.bind ?_ (fun _ => ?_))
   | exact ih0 _ _ _ _
   | exact ih1 _ _ _ _
   | exact ih2 _ _ _ _ _
   | exact ih3 _ _ _ _ _
   | exact ih4 _ _ _ _ _ _
   | exact etag_Print.mono _ _ _
   | exact sprlaw13_Few.mono _ _
   | exact sprlaw21_first.mono _
   | exact sprlaw21_within.mono _ _ _
   | exact sprref_Fields.mono _ _ _
   | exact use_Ask.mono _ _ _ _
   | exact use_Marks.mono _ _
   | exact LeO.none _
   | refine LeO.ite ?_ ?_
   | refine LeO.bind ?_ (fun _ => ?_)
  ·intro y0 y1 y2 y3 y4 y5
   unfold sprlaw21_UseMarks.l2
   repeat' first
   | (with_reducible exact ih0 _ _ _ _)
   | (with_reducible exact ih1 _ _ _ _)
   | (with_reducible exact ih2 _ _ _ _ _)
   | (with_reducible exact ih3 _ _ _ _ _)
   | (with_reducible exact ih4 _ _ _ _ _ _)
   | (with_reducible exact etag_Print.mono _ _ _)
   | (with_reducible exact sprlaw13_Few.mono _ _)
   | (with_reducible exact sprlaw21_first.mono _)
   | (with_reducible exact sprlaw21_within.mono _ _ _)
   | (with_reducible exact sprref_Fields.mono _ _ _)
   | (with_reducible exact use_Ask.mono _ _ _ _)
   | (with_reducible exact use_Marks.mono _ _)
   | (with_reducible exact LeO.refl _)
   | (with_reducible exact LeO.none _)
   | (with_reducible refine LeO.ite ?_ ?_)
   | (with_reducible refine LeO.bind ?_ (fun _ => ?_))
   | exact ih0 _ _ _ _
   | exact ih1 _ _ _ _
   | exact ih2 _ _ _ _ _
   | exact ih3 _ _ _ _ _
   | exact ih4 _ _ _ _ _ _
   | exact etag_Print.mono _ _ _
   | exact sprlaw13_Few.mono _ _
   | exact sprlaw21_first.mono _
   | exact sprlaw21_within.mono _ _ _
   | exact sprref_Fields.mono _ _ _
   | exact use_Ask.mono _ _ _ _
   | exact use_Marks.mono _ _
   | exact LeO.none _
   | refine LeO.ite ?_ ?_
   | refine LeO.bind ?_ (fun _ => ?_)
theorem sprlaw21_UseMarks.mono : ∀ a0 a1 a2 k, LeO (sprlaw21_UseMarks.f k a0 a1 a2) (sprlaw21_UseMarks.f (k + 1) a0 a1 a2) := by
 intro a0 a1 a2 k;obtain ⟨ih0, ih1, ih2, ih3, ih4⟩ := sprlaw21_UseMarks.mono_l k
 unfold sprlaw21_UseMarks.f
 repeat' first
   | (with_reducible exact ih0 _ _ _ _)
   | (with_reducible exact ih1 _ _ _ _)
   | (with_reducible exact ih2 _ _ _ _ _)
   | (with_reducible exact ih3 _ _ _ _ _)
   | (with_reducible exact ih4 _ _ _ _ _ _)
   | (with_reducible exact etag_Print.mono _ _ _)
   | (with_reducible exact sprlaw13_Few.mono _ _)
   | (with_reducible exact sprlaw21_first.mono _)
   | (with_reducible exact sprlaw21_within.mono _ _ _)
   | (with_reducible exact sprref_Fields.mono _ _ _)
   | (with_reducible exact use_Ask.mono _ _ _ _)
   | (with_reducible exact use_Marks.mono _ _)
   | (with_reducible exact LeO.refl _)
   | (with_reducible exact LeO.none _)
   | (with_reducible refine LeO.ite ?_ ?_)
   | (with_reducible refine LeO.bind ?_ (fun _ => ?_))
   | exact ih0 _ _ _ _
   | exact ih1 _ _ _ _
   | exact ih2 _ _ _ _ _
   | exact ih3 _ _ _ _ _
   | exact ih4 _ _ _ _ _ _
   | exact etag_Print.mono _ _ _
   | exact sprlaw13_Few.mono _ _
   | exact sprlaw21_first.mono _
   | exact sprlaw21_within.mono _ _ _
   | exact sprref_Fields.mono _ _ _
   | exact use_Ask.mono _ _ _ _
   | exact use_Marks.mono _ _
   | exact LeO.none _
   | refine LeO.ite ?_ ?_
   | refine LeO.bind ?_ (fun _ => ?_)
set_option maxHeartbeats 2000000 in
set_option maxRecDepth 100000 in
theorem sprlaw21_UseMarks.calls (k : Nat) (A0 : Option Addr) (c0 : Nat) (l0 : List (S33)) (A1 : Option Addr) (c1 : Nat) (l1 : List (List (S33))) (A2 : Option Addr) (c2 : Nat) (l2 : List (S33)) (r : Bool) (w : World) (hr0 : Kd.C k33 w A0 l0.length l0) (hc0 : l0.length ≤ c0) (hr1 : Kd.C (Kd.slice 33 k33) w A1 l1.length l1) (hc1 : l1.length ≤ c1) (hr2 : Kd.C k33 w A2 l2.length l2) (hc2 : l2.length ≤ c2) (h : sprlaw21_UseMarks.f k l0 l1 l2 = some r) (hT : Aside0 (r = true)) :
  Calls Tryz.prog 3 #[.slice A0 l0.length c0, .slice A1 l1.length c1, .slice A2 l2.length c2] w fun e w' => e = .returned (.bool r) ∧ Below w.heap.size w w' := by
 have hu29 := Tryz.underlying29;have HR0 := Aside0.mk hr0;have HC0 := Aside0.mk hc0;clear hr0 hc0;have HR1 := Aside0.mk hr1;have HC1 := Aside0.mk hc1;clear hr1 hc1;have HR2 := Aside0.mk hr2;have HC2 := Aside0.mk hc2;clear hr2 hc2;have HB := Aside0.mk (Below.refl w.heap.size w);have H : ((sprlaw21_first.f k).bind fun t348 => (if t348 = true then ((sprlaw13_Few.f k l0).bind fun t349 => (if t349 = true then ((sprlaw13_Few.f k l2).bind fun t350 => (if t350 = true then (sprlaw21_UseMarks.j0 k l0 l1 l2 (decide ((l1.length : Int) > 20))) else (sprlaw21_UseMarks.j0 k l0 l1 l2 true))) else (sprlaw21_UseMarks.j0 k l0 l1 l2 true))) else (some false))) = some r := h;clear h;replace H := Option.bind_eq_some_iff.mp H;obtain ⟨t348, A40, H⟩ := H;replace H : (if t348 = true then ((sprlaw13_Few.f k l0).bind fun t349 => (if t349 = true then ((sprlaw13_Few.f k l2).bind fun t350 => (if t350 = true then (sprlaw21_UseMarks.j0 k l0 l1 l2 (decide ((l1.length : Int) > 20))) else (sprlaw21_UseMarks.j0 k l0 l1 l2 true))) else (sprlaw21_UseMarks.j0 k l0 l1 l2 true))) else (some false)) = some r := H;have A4 := Aside0.mk A40;clear A40
 by_cases c5 : t348 = true
 ·subst c5
  (have H1 : ((sprlaw13_Few.f k l0).bind fun t349 => (if t349 = true then ((sprlaw13_Few.f k l2).bind fun t350 => (if t350 = true then (sprlaw21_UseMarks.j0 k l0 l1 l2 (decide ((l1.length : Int) > 20))) else (sprlaw21_UseMarks.j0 k l0 l1 l2 true))) else (sprlaw21_UseMarks.j0 k l0 l1 l2 true))) = some r := by rw [if_pos rfl] at H; exact H);clear H;have H := H1;clear H1;have HC6 := Aside0.mk H;clear H;go_enter Tryz.func3, Tryz.ntmps3;go_upto_region 3 with (first | ((with_reducible refine gate_callee (f:=4) rfl ?_); refine goesL_ (some 21) rfl rfl Tryz.func4 (by kernel_rfl) rfl #[] rfl (by (try simp only [List.map_toArray, List.map_cons, List.map_nil]); first | done | rfl | (simp only [List.length_drop, List.length_take]; rfl)) ?_; (with_reducible refine (sprlaw21_first.calls k  true _ A4.out).mono ?_); rintro e w7 ⟨rfl, hb⟩; refine ⟨_, rfl, ?_⟩; have n0_ := Aside0.mk (below_step (hA HB.out) hb); clear HB; have HB := n0_; clear n0_; (try clear hb); (try clear hb2); (try clear hk); (try clear hi)))
  (try simp only [Act.put, List.setIfInBounds_toArray, List.set_cons_zero, List.set_cons_succ])
  go_cut [35] (fun v35 wc => ∃ (kq : Nat) (x35_5 : Bool), v35 = .bool x35_5 ∧ Aside0 (sprlaw21_UseMarks.j0 kq l0 l1 l2 x35_5 = some r) ∧ Aside0 (kq ≤ k) ∧ Aside0 (Below w.heap.size w wc))
  case first =>
   have H := HC6.out;clear HC6;replace H := Option.bind_eq_some_iff.mp H;obtain ⟨t349, A80, H⟩ := H;replace H : (if t349 = true then ((sprlaw13_Few.f k l2).bind fun t350 => (if t350 = true then (sprlaw21_UseMarks.j0 k l0 l1 l2 (decide ((l1.length : Int) > 20))) else (sprlaw21_UseMarks.j0 k l0 l1 l2 true))) else (sprlaw21_UseMarks.j0 k l0 l1 l2 true)) = some r := H;have A8 := Aside0.mk A80;clear A80
   by_cases c9 : t349 = true
   ·subst c9
    (have H1 : ((sprlaw13_Few.f k l2).bind fun t350 => (if t350 = true then (sprlaw21_UseMarks.j0 k l0 l1 l2 (decide ((l1.length : Int) > 20))) else (sprlaw21_UseMarks.j0 k l0 l1 l2 true))) = some r := by rw [if_pos rfl] at H; exact H);clear H;have H := H1;clear H1;replace H := Option.bind_eq_some_iff.mp H;obtain ⟨t350, A100, H⟩ := H;replace H : (if t350 = true then (sprlaw21_UseMarks.j0 k l0 l1 l2 (decide ((l1.length : Int) > 20))) else (sprlaw21_UseMarks.j0 k l0 l1 l2 true)) = some r := H;have A10 := Aside0.mk A100;clear A100
    by_cases c11 : t350 = true
    ·subst c11
     (have H1 : (sprlaw21_UseMarks.j0 k l0 l1 l2 (decide ((l1.length : Int) > 20))) = some r := by rw [if_pos rfl] at H; exact H);clear H;have H := H1;clear H1;have H' := Aside0.mk H;clear H;go_wp2_with (first | ((with_reducible refine gate_callee (f:=5) rfl ?_); refine goesL_ (some 24) rfl rfl Tryz.func5 (by kernel_rfl) rfl #[.slice A0 l0.length c0] rfl (by (try simp only [List.map_toArray, List.map_cons, List.map_nil]); first | done | rfl | (simp only [List.length_drop, List.length_take]; rfl)) ?_; (with_reducible refine (sprlaw13_Few.calls k _ _ l0 true _ ?side1 ?side2 A8.out).mono ?_); (case side1 => exact cA (Kd.C_below HR0.out HB.out)); (case side2 => exact HC0.out); rintro e w12 ⟨rfl, hb⟩; refine ⟨_, rfl, ?_⟩; have n0_ := Aside0.mk (below_step (hA HB.out) hb); clear HB; have HB := n0_; clear n0_; (try clear hb); (try clear hb2); (try clear hk); (try clear hi)) | (go_at_call 5; (with_reducible refine (sprlaw13_Few.calls k _ _ l2 true _ ?side1 ?side2 A10.out).mono ?_); (case side1 => exact cA (Kd.C_below HR2.out HB.out)); (case side2 => exact HC2.out); rintro e w13 ⟨rfl, hb⟩; have n0_ := Aside0.mk (below_step (hA HB.out) hb); clear HB; have HB := n0_; clear n0_; (try clear hb); (try clear hb2); (try clear hk); (try clear hi)));go_meet
     case rel => exact ⟨_, (decide ((l1.length : Int) > 20)), (by first | rfl | (simp; done) | (simp [*]; done)), H', ⟨by first | omega | exact Nat.le_refl _⟩, ⟨hA HB.out⟩⟩
    ·replace c11 := Bool.eq_false_iff.mpr c11
     subst c11;(have H1 : (sprlaw21_UseMarks.j0 k l0 l1 l2 true) = some r := by rw [if_neg (show ¬ (false = true) by decide)] at H; exact H);clear H;have H := H1;clear H1;have H' := Aside0.mk H;clear H;go_wp2_with (first | ((with_reducible refine gate_callee (f:=5) rfl ?_); refine goesL_ (some 24) rfl rfl Tryz.func5 (by kernel_rfl) rfl #[.slice A0 l0.length c0] rfl (by (try simp only [List.map_toArray, List.map_cons, List.map_nil]); first | done | rfl | (simp only [List.length_drop, List.length_take]; rfl)) ?_; (with_reducible refine (sprlaw13_Few.calls k _ _ l0 true _ ?side1 ?side2 A8.out).mono ?_); (case side1 => exact cA (Kd.C_below HR0.out HB.out)); (case side2 => exact HC0.out); rintro e w14 ⟨rfl, hb⟩; refine ⟨_, rfl, ?_⟩; have n0_ := Aside0.mk (below_step (hA HB.out) hb); clear HB; have HB := n0_; clear n0_; (try clear hb); (try clear hb2); (try clear hk); (try clear hi)) | (go_at_call 5; (with_reducible refine (sprlaw13_Few.calls k _ _ l2 false _ ?side1 ?side2 A10.out).mono ?_); (case side1 => exact cA (Kd.C_below HR2.out HB.out)); (case side2 => exact HC2.out); rintro e w15 ⟨rfl, hb⟩; have n0_ := Aside0.mk (below_step (hA HB.out) hb); clear HB; have HB := n0_; clear n0_; (try clear hb); (try clear hb2); (try clear hk); (try clear hi)));go_meet
     case rel => exact ⟨_, (true), (by first | rfl | (simp; done) | (simp [*]; done)), H', ⟨by first | omega | exact Nat.le_refl _⟩, ⟨hA HB.out⟩⟩
   ·replace c9 := Bool.eq_false_iff.mpr c9
    subst c9;(have H1 : (sprlaw21_UseMarks.j0 k l0 l1 l2 true) = some r := by rw [if_neg (show ¬ (false = true) by decide)] at H; exact H);clear H;have H := H1;clear H1;have H' := Aside0.mk H;clear H;go_wp2_with (first | ((with_reducible refine gate_callee (f:=5) rfl ?_); refine goesL_ (some 24) rfl rfl Tryz.func5 (by kernel_rfl) rfl #[.slice A0 l0.length c0] rfl (by (try simp only [List.map_toArray, List.map_cons, List.map_nil]); first | done | rfl | (simp only [List.length_drop, List.length_take]; rfl)) ?_; (with_reducible refine (sprlaw13_Few.calls k _ _ l0 false _ ?side1 ?side2 A8.out).mono ?_); (case side1 => exact cA (Kd.C_below HR0.out HB.out)); (case side2 => exact HC0.out); rintro e w16 ⟨rfl, hb⟩; refine ⟨_, rfl, ?_⟩; have n0_ := Aside0.mk (below_step (hA HB.out) hb); clear HB; have HB := n0_; clear n0_; (try clear hb); (try clear hb2); (try clear hk); (try clear hi)));go_meet
    case rel => exact ⟨_, (true), (by first | rfl | (simp; done) | (simp [*]; done)), H', ⟨by first | omega | exact Nat.le_refl _⟩, ⟨hA HB.out⟩⟩
  case rest =>
   clear HC6;(try clear c1);(try clear c2);(try clear p2);(try clear c3);(try clear c4);(try clear c5);(try clear c9);(try clear c11);obtain ⟨kq, x35_5, rfl, HA, HJ5, HB⟩ := hcut
   cases kq with
   | zero => exact absurd HA.out (by simp [sprlaw21_UseMarks.j0])
   | succ kj5 =>
    have H := HA.out;clear HA;simp only [sprlaw21_UseMarks.j0] at H
    by_cases c17 : x35_5 = true
    ·subst c17;(have H1 : ((sprlaw21_first.f kj5).bind fun t351 => (some t351)) = some r := by rw [if_pos rfl] at H; exact H);clear H;have H := H1;clear H1;replace H := Option.bind_eq_some_iff.mp H;obtain ⟨t351, A180, H⟩ := H;replace H : (some t351) = some r := H;have A18 := Aside0.mk A180;clear A180;obtain rfl := Option.some.inj H;go_wp2_with (first | ((with_reducible refine gate_callee (f:=4) rfl ?_); refine goesL_ (some 36) rfl rfl Tryz.func4 (by kernel_rfl) rfl #[] rfl (by (try simp only [List.map_toArray, List.map_cons, List.map_nil]); first | done | rfl | (simp only [List.length_drop, List.length_take]; rfl)) ?_; (with_reducible refine (sprlaw21_first.calls kj5  t351 _ A18.out).mono ?_); rintro e w19 ⟨rfl, hb⟩; refine ⟨_, rfl, ?_⟩; have n0_ := Aside0.mk (below_step (hA HB.out) hb); clear HB; have HB := n0_; clear n0_; (try clear hb); (try clear hb2); (try clear hk); (try clear hi)));go_ret;exact ⟨by first | rfl | (simp [errW_none, errW_some] <;> rfl) | (simp [*, errW_none, errW_some] <;> rfl), by repeat (first | (with_reducible first | exact HB.out | apply below_alloc | apply pw_below_drewN | apply below_drew1) | exact HB.out)⟩
    ·replace c17 := Bool.eq_false_iff.mpr c17
     subst c17;(have H1 : (sprlaw21_UseMarks.l0 kj5 l0 l1 l2 0) = some r := by rw [if_neg (show ¬ (false = true) by decide)] at H; exact H);clear H;have H := H1;clear H1;have H' := Aside0.mk H;clear H;go_wp2;go_loopg [7] kj5 (fun kq v7 w' => ∃ (x7_2 : Int), v7 = .int .i64 x7_2 ∧ Aside0 (sprlaw21_UseMarks.l0 kq l0 l1 l2 x7_2 = some r) ∧ Aside0 (kq ≤ kj5) ∧ Aside0 (Below w.heap.size w w'))
     case atStart => exact ⟨(0), (by first | rfl | (simp; done) | (simp [*]; done)), H', ⟨Nat.le_refl _⟩, ⟨hA HB.out⟩⟩
     case round =>
      clear H';(try clear c1);(try clear c2);(try clear p2);(try clear c3);(try clear c4);(try clear c5);(try clear c9);(try clear c11);(try clear c17);(try clear p2);obtain ⟨x7_2, rfl, HA, HK2, HB⟩ := hrel
      cases gk with
      | zero => exact absurd HA.out (by simp [sprlaw21_UseMarks.l0])
      | succ k2 =>
       have H := HA.out;clear HA;simp only [sprlaw21_UseMarks.l0] at H
       by_cases c20 : x7_2 < (l1.length : Int)
       ·rw [if_pos c20] at H
        have c20b0 : decide (x7_2 < (l1.length : Int)) = true := decide_eq_true c20;clear c20
        by_cases c21 : 0 ≤ x7_2
        ·rw [if_pos c21] at H
         have c21b0 : decide (0 ≤ x7_2) = true := decide_eq_true c21;clear c21;replace H := Option.bind_eq_some_iff.mp H;obtain ⟨t353, A220, H⟩ := H;replace H : (if t353 = true then (if ((rd_L2 l1 x7_2).length : Int) > 20 then ((sprlaw21_first.f k2).bind fun t355 => (some t355)) else (sprlaw21_UseMarks.l0 k2 l0 l1 l2 (wrap64 (x7_2 + 1)))) else ((sprlaw21_first.f k2).bind fun t356 => (some t356))) = some r := H;have A22 := Aside0.mk A220;clear A220
         by_cases c23 : t353 = true
         ·subst c23
          (have H1 : (if ((rd_L2 l1 x7_2).length : Int) > 20 then ((sprlaw21_first.f k2).bind fun t355 => (some t355)) else (sprlaw21_UseMarks.l0 k2 l0 l1 l2 (wrap64 (x7_2 + 1)))) = some r := by rw [if_pos rfl] at H; exact H);clear H;have H := H1;clear H1
          by_cases c24 : ((rd_L2 l1 x7_2).length : Int) > 20
          ·rw [if_pos c24] at H
           have c24b0 : decide (20 < ((rd_L2 l1 x7_2).length : Int)) = true := decide_eq_true c24;have c24b1 : decide (20 < (rd_L2 l1 x7_2).length) = true := decide_eq_true (by omega);clear c24;replace H := Option.bind_eq_some_iff.mp H;obtain ⟨t355, A250, H⟩ := H;replace H : (some t355) = some r := H;have A25 := Aside0.mk A250;clear A250;obtain rfl := Option.some.inj H;have p352 : 0 ≤ (x7_2 : Int) := of_decide_eq_true (by first | (with_reducible assumption) | assumption);have q352 : x7_2 < (l1.length : Int) := of_decide_eq_true (by first | (with_reducible assumption) | assumption);obtain ⟨ad352, A352_0, c352_0, e352, hx352_0, hl352_0, hi352_0⟩ := at_L2 HR1.out x7_2 p352 q352
           cases e352
           replace hx352_0 := (HB.out.cell (World.block_lt_of_cell? w _ hx352_0)).trans hx352_0;have HR352_0 := Aside0.mk hi352_0;have HC352_0 := Aside0.mk hl352_0;clear hi352_0 hl352_0;replace p352 := eq_true p352;replace q352 := eq_true q352;go_wp2_with (first | ((with_reducible refine gate_callee (f:=5) rfl ?_); refine goesL_ (some 47) rfl rfl Tryz.func5 (by kernel_rfl) rfl #[.slice A352_0 (rd_L2 l1 x7_2).length c352_0] rfl (by (try simp only [List.map_toArray, List.map_cons, List.map_nil]); first | done | rfl | (simp only [List.length_drop, List.length_take]; rfl)) ?_; (with_reducible refine (sprlaw13_Few.calls k2 _ _ (rd_L2 l1 x7_2) true _ ?side1 ?side2 A22.out).mono ?_); (case side1 => exact cA (Kd.C_below HR352_0.out HB.out)); (case side2 => exact HC352_0.out); rintro e w26 ⟨rfl, hb⟩; refine ⟨_, rfl, ?_⟩; have n0_ := Aside0.mk (below_step (hA HB.out) hb); clear HB; have HB := n0_; clear n0_; (try clear hb); (try clear hb2); (try clear hk); (try clear hi); have p354 : 0 ≤ (x7_2 : Int) := of_decide_eq_true (by first | (with_reducible assumption) | assumption); have q354 : x7_2 < (l1.length : Int) := of_decide_eq_true (by first | (with_reducible assumption) | assumption); obtain ⟨ad354, A354_0, c354_0, e354, hx354_0, hl354_0, hi354_0⟩ := at_L2 HR1.out x7_2 p354 q354; obtain rfl : ad352 = ad354 := (by injection e354); replace hx354_0 := (HB.out.cell (World.block_lt_of_cell? w _ hx354_0)).trans hx354_0; have HR354_0 := Aside0.mk hi354_0; have HC354_0 := Aside0.mk hl354_0; clear hi354_0 hl354_0; replace p354 := eq_true p354; replace q354 := eq_true q354) | ((with_reducible refine gate_callee (f:=4) rfl ?_); refine goesL_ (some 57) rfl rfl Tryz.func4 (by kernel_rfl) rfl #[] rfl (by (try simp only [List.map_toArray, List.map_cons, List.map_nil]); first | done | rfl | (simp only [List.length_drop, List.length_take]; rfl)) ?_; (with_reducible refine (sprlaw21_first.calls k2  t355 _ A25.out).mono ?_); rintro e w27 ⟨rfl, hb⟩; refine ⟨_, rfl, ?_⟩; have n0_ := Aside0.mk (below_step (hA HB.out) hb); clear HB; have HB := n0_; clear n0_; (try clear hb); (try clear hb2); (try clear hk); (try clear hi)));go_ret;exact ⟨by first | rfl | (simp [errW_none, errW_some] <;> rfl) | (simp [*, errW_none, errW_some] <;> rfl), by repeat (first | (with_reducible first | exact HB.out | apply below_alloc | apply pw_below_drewN | apply below_drew1) | exact HB.out)⟩
          ·rw [if_neg c24] at H
           have c24b0 : decide (20 < ((rd_L2 l1 x7_2).length : Int)) = false := decide_eq_false c24;have c24b1 : decide (20 < (rd_L2 l1 x7_2).length) = false := decide_eq_false (by omega);clear c24;have H' := Aside0.mk H;clear H;have p352 : 0 ≤ (x7_2 : Int) := of_decide_eq_true (by first | (with_reducible assumption) | assumption);have q352 : x7_2 < (l1.length : Int) := of_decide_eq_true (by first | (with_reducible assumption) | assumption);obtain ⟨ad352, A352_0, c352_0, e352, hx352_0, hl352_0, hi352_0⟩ := at_L2 HR1.out x7_2 p352 q352
           cases e352
           replace hx352_0 := (HB.out.cell (World.block_lt_of_cell? w _ hx352_0)).trans hx352_0;have HR352_0 := Aside0.mk hi352_0;have HC352_0 := Aside0.mk hl352_0;clear hi352_0 hl352_0;replace p352 := eq_true p352;replace q352 := eq_true q352;go_wp2_with (first | ((with_reducible refine gate_callee (f:=5) rfl ?_); refine goesL_ (some 47) rfl rfl Tryz.func5 (by kernel_rfl) rfl #[.slice A352_0 (rd_L2 l1 x7_2).length c352_0] rfl (by (try simp only [List.map_toArray, List.map_cons, List.map_nil]); first | done | rfl | (simp only [List.length_drop, List.length_take]; rfl)) ?_; (with_reducible refine (sprlaw13_Few.calls k2 _ _ (rd_L2 l1 x7_2) true _ ?side1 ?side2 A22.out).mono ?_); (case side1 => exact cA (Kd.C_below HR352_0.out HB.out)); (case side2 => exact HC352_0.out); rintro e w28 ⟨rfl, hb⟩; refine ⟨_, rfl, ?_⟩; have n0_ := Aside0.mk (below_step (hA HB.out) hb); clear HB; have HB := n0_; clear n0_; (try clear hb); (try clear hb2); (try clear hk); (try clear hi); have p354 : 0 ≤ (x7_2 : Int) := of_decide_eq_true (by first | (with_reducible assumption) | assumption); have q354 : x7_2 < (l1.length : Int) := of_decide_eq_true (by first | (with_reducible assumption) | assumption); obtain ⟨ad354, A354_0, c354_0, e354, hx354_0, hl354_0, hi354_0⟩ := at_L2 HR1.out x7_2 p354 q354; obtain rfl : ad352 = ad354 := (by injection e354); replace hx354_0 := (HB.out.cell (World.block_lt_of_cell? w _ hx354_0)).trans hx354_0; have HR354_0 := Aside0.mk hi354_0; have HC354_0 := Aside0.mk hl354_0; clear hi354_0 hl354_0; replace p354 := eq_true p354; replace q354 := eq_true q354));go_roundg k2
           case measure => have := HJ5.out; have := HK2.out; omega
           case rel => exact ⟨(wrap64 (x7_2 + 1)), (by first | rfl | (simp; done) | (simp [*]; done)), H', ⟨by have := HJ5.out; have := HK2.out; omega⟩, ⟨hA HB.out⟩⟩
         ·replace c23 := Bool.eq_false_iff.mpr c23
          subst c23;(have H1 : ((sprlaw21_first.f k2).bind fun t356 => (some t356)) = some r := by rw [if_neg (show ¬ (false = true) by decide)] at H; exact H);clear H;have H := H1;clear H1;replace H := Option.bind_eq_some_iff.mp H;obtain ⟨t356, A290, H⟩ := H;replace H : (some t356) = some r := H;have A29 := Aside0.mk A290;clear A290;obtain rfl := Option.some.inj H;have p352 : 0 ≤ (x7_2 : Int) := of_decide_eq_true (by first | (with_reducible assumption) | assumption);have q352 : x7_2 < (l1.length : Int) := of_decide_eq_true (by first | (with_reducible assumption) | assumption);obtain ⟨ad352, A352_0, c352_0, e352, hx352_0, hl352_0, hi352_0⟩ := at_L2 HR1.out x7_2 p352 q352
          cases e352
          replace hx352_0 := (HB.out.cell (World.block_lt_of_cell? w _ hx352_0)).trans hx352_0;have HR352_0 := Aside0.mk hi352_0;have HC352_0 := Aside0.mk hl352_0;clear hi352_0 hl352_0;replace p352 := eq_true p352;replace q352 := eq_true q352;go_wp2_with (first | ((with_reducible refine gate_callee (f:=5) rfl ?_); refine goesL_ (some 47) rfl rfl Tryz.func5 (by kernel_rfl) rfl #[.slice A352_0 (rd_L2 l1 x7_2).length c352_0] rfl (by (try simp only [List.map_toArray, List.map_cons, List.map_nil]); first | done | rfl | (simp only [List.length_drop, List.length_take]; rfl)) ?_; (with_reducible refine (sprlaw13_Few.calls k2 _ _ (rd_L2 l1 x7_2) false _ ?side1 ?side2 A22.out).mono ?_); (case side1 => exact cA (Kd.C_below HR352_0.out HB.out)); (case side2 => exact HC352_0.out); rintro e w30 ⟨rfl, hb⟩; refine ⟨_, rfl, ?_⟩; have n0_ := Aside0.mk (below_step (hA HB.out) hb); clear HB; have HB := n0_; clear n0_; (try clear hb); (try clear hb2); (try clear hk); (try clear hi)) | ((with_reducible refine gate_callee (f:=4) rfl ?_); refine goesL_ (some 57) rfl rfl Tryz.func4 (by kernel_rfl) rfl #[] rfl (by (try simp only [List.map_toArray, List.map_cons, List.map_nil]); first | done | rfl | (simp only [List.length_drop, List.length_take]; rfl)) ?_; (with_reducible refine (sprlaw21_first.calls k2  t356 _ A29.out).mono ?_); rintro e w31 ⟨rfl, hb⟩; refine ⟨_, rfl, ?_⟩; have n0_ := Aside0.mk (below_step (hA HB.out) hb); clear HB; have HB := n0_; clear n0_; (try clear hb); (try clear hb2); (try clear hk); (try clear hi)));go_ret;exact ⟨by first | rfl | (simp [errW_none, errW_some] <;> rfl) | (simp [*, errW_none, errW_some] <;> rfl), by repeat (first | (with_reducible first | exact HB.out | apply below_alloc | apply pw_below_drewN | apply below_drew1) | exact HB.out)⟩
        ·rw [if_neg c21] at H;exact absurd H (by simp)
       ·rw [if_neg c20] at H
        have c20b0 : decide (x7_2 < (l1.length : Int)) = false := decide_eq_false c20;clear c20;replace H := Option.bind_eq_some_iff.mp H;obtain ⟨t357, A320, H⟩ := H;replace H : (if (t357.length : Int) < (l0.length : Int) then (sprlaw21_UseMarks.j2 k2 l0 l1 l2 t357 true) else (if (t357.length : Int) > (wrap64 ((l0.length : Int) + 2)) then (sprlaw21_UseMarks.j2 k2 l0 l1 l2 t357 true) else (if 0 ≤ (l0.length : Int) then (if (l0.length : Int) ≤ (t357.length : Int) then ((sprref_Fields.f k2 (t357.take ((l0.length : Int) : Int).toNat) l0).bind fun t364 => (sprlaw21_UseMarks.j2 k2 l0 l1 l2 t357 (!t364))) else (none)) else (none)))) = some r := H;have A32 := Aside0.mk A320;clear A320;have HC33 := Aside0.mk H;clear H;go_upto_region 11 with (first | ((with_reducible refine gate_callee (f:=6) rfl ?_); refine goesL_ (some 61) rfl rfl Tryz.func6 (by kernel_rfl) rfl #[.slice A0 l0.length c0, .slice A1 l1.length c1, .slice A2 l2.length c2] rfl (by (try simp only [List.map_toArray, List.map_cons, List.map_nil]); first | done | rfl | (simp only [List.length_drop, List.length_take]; rfl)) ?_; (with_reducible refine (use_Ask.calls k2 _ _ l0 _ _ l1 _ _ l2 t357 _ ?side1 ?side2 ?side3 ?side4 ?side5 ?side6 A32.out).mono ?_); (case side1 => exact cA (Kd.C_below HR0.out HB.out)); (case side2 => exact HC0.out); (case side3 => exact cA (Kd.C_below HR1.out HB.out)); (case side4 => exact HC1.out); (case side5 => exact cA (Kd.C_below HR2.out HB.out)); (case side6 => exact HC2.out); rintro e w34 ⟨v358, rfl, ho0, hb⟩; refine ⟨_, rfl, ?_⟩; have n0_ := Aside0.mk (Kd.R_lower ho0 (below_size (hA HB.out))); have n1_ := Aside0.mk (below_step (hA HB.out) hb); clear HB; have HO359 := n0_; have HB := n1_; clear n0_ n1_; (try clear hb); (try clear hb2); (try clear hk); (try clear hi); (try clear ho0)))
        (try simp only [Act.put, List.setIfInBounds_toArray, List.set_cons_zero, List.set_cons_succ])
        go_cut [83] (fun v83 wc => ∃ (kq : Nat) (x83_32 : Bool), v83 = .bool x83_32 ∧ Aside0 (sprlaw21_UseMarks.j2 kq l0 l1 l2 t357 x83_32 = some r) ∧ Aside0 (kq ≤ k2) ∧ Aside0 (Kd.R k33 33 wc w.heap.size (fun _ => True) v358 t357) ∧ Aside0 (Below w.heap.size w wc))
        case first =>
         have H := HC33.out;clear HC33
         by_cases c35 : (t357.length : Int) < (l0.length : Int)
         ·rw [if_pos c35] at H
          have c35b0 : decide ((t357.length : Int) < (l0.length : Int)) = true := decide_eq_true c35;have c35b1 : decide (t357.length < l0.length) = true := decide_eq_true (Int.ofNat_lt.mp c35);clear c35
          (first | rw [c35b0] | (simp only [i64_w, i32_w]; rw [c35b0]) | skip)
          exact absurd H (by cases k2 with | zero => (simp [sprlaw21_UseMarks.j2]) | succ kz => (intro hz; simp only [sprlaw21_UseMarks.j2] at hz; exact absurd ((Option.some.inj hz).trans hT.out) (by decide)))
         ·rw [if_neg c35] at H
          have c35b0 : decide ((t357.length : Int) < (l0.length : Int)) = false := decide_eq_false c35;have c35b1 : decide (t357.length < l0.length) = false := decide_eq_false (fun h => c35 (Int.ofNat_lt.mpr h));clear c35
          (first | rw [c35b0] | (simp only [i64_w, i32_w]; rw [c35b0]) | skip)
          by_cases c36 : (t357.length : Int) > (wrap64 ((l0.length : Int) + 2))
          ·rw [if_pos c36] at H;have c36b0 : decide ((wrap64 ((l0.length : Int) + 2)) < (t357.length : Int)) = true := decide_eq_true c36;clear c36;exact absurd H (by cases k2 with | zero => (simp [sprlaw21_UseMarks.j2]) | succ kz => (intro hz; simp only [sprlaw21_UseMarks.j2] at hz; exact absurd ((Option.some.inj hz).trans hT.out) (by decide)))
          ·rw [if_neg c36] at H
           have c36b0 : decide ((wrap64 ((l0.length : Int) + 2)) < (t357.length : Int)) = false := decide_eq_false c36;clear c36
           by_cases c37 : 0 ≤ (l0.length : Int)
           ·rw [if_pos c37] at H
            have c37b0 := eq_true c37;have c37b1 : decide (0 ≤ (l0.length : Int)) = true := decide_eq_true c37;clear c37
            by_cases c38 : (l0.length : Int) ≤ (t357.length : Int)
            ·rw [if_pos c38] at H
             have c38b0 := eq_true c38;have c38b1 : decide ((l0.length : Int) ≤ (t357.length : Int)) = true := decide_eq_true c38;clear c38;obtain ⟨y360, hy360⟩ : ∃ y_ : List (S33), y_ = (t357.take ((l0.length : Int) : Int).toNat) := ⟨_, rfl⟩;(replace H : ((sprref_Fields.f k2 y360 l0).bind fun t364 => (sprlaw21_UseMarks.j2 k2 l0 l1 l2 t357 (!t364))) = some r := by first | (rw [hy360]; with_reducible exact H) | (have H2_ := (Option.bind_some _ _).symm.trans H; rw [hy360]; with_reducible exact H2_) | (have H2_ := (Option.bind_some _ _).symm.trans H; with_reducible exact H2_) | with_reducible exact H | (rw [hy360]; exact H) | exact H);have Ny360 := Aside0.mk hy360;clear hy360;replace H := Option.bind_eq_some_iff.mp H;obtain ⟨t364, A390, H⟩ := H;replace H : (sprlaw21_UseMarks.j2 k2 l0 l1 l2 t357 (!t364)) = some r := H;have A39 := Aside0.mk A390;clear A390;have H' := Aside0.mk H;clear H;obtain ⟨Ao40, co40, eo40⟩ := Kd.R_slice HO359.out;subst eo40;have q41 : ((l0.length : Int) : Int) ≤ ((t357.length : Int) : Int) := of_decide_eq_true (by first | (with_reducible assumption) | assumption);obtain ⟨i041, hi041, _, hsz41, _⟩ := info_parts info33;have hroom41 : t357.length ≤ co40 := (Kd.R_reads' HO359.out).2.1;have hC41 : Kd.C k33 _ Ao40 t357.length t357 := (Kd.R_reads' HO359.out).2.2;have hcut41 := cut_to (P:=Tryz.prog) 22 33 .i64 Tryz.underlying22 hi041 Ao40 t357.length co40 (l0.length : Int) (of_decide_eq_true (by first | (with_reducible assumption) | assumption)) q41 hroom41;have hr41 := Kd.C_take (m:=((l0.length : Int) : Int).toNat) hC41 (by omega);have hy41 : y360.length = ((l0.length : Int) : Int).toNat := (by rw [Ny360.out, List.length_take]; omega);rw [← Ny360.out] at hr41;rw [← hy41] at hcut41;have HR363 := Aside0.mk hr41;have HC363 := Aside0.mk (show y360.length ≤ co40 from by omega);clear hr41 hC41 hroom41 hi041 hsz41;have KY41 := Aside0.mk hy41;clear hy41;have KL41 := Aside0.mk (show ((l0.length : Int) : Int).toNat ≤ t357.length from by omega);replace q41 := eq_true q41;go_wp2_with (first | (go_at_call 7; (with_reducible refine (sprref_Fields.calls k2 _ _ y360 _ _ l0 t364 _ ?side1 ?side2 ?side3 ?side4 A39.out).mono ?_); (case side1 => repeat (first | exact (by repeat (first | (with_reducible exact HR363.out) | (with_reducible refine Kd.C_alloc ?_ _) | (with_reducible refine Kd.C_drewN ?_ _) | (with_reducible refine Kd.C_drew ?_) | exact HR363.out)) | (with_reducible refine Kd.C_alloc ?_ _) | (with_reducible refine Kd.C_drewN ?_ _) | (with_reducible refine Kd.C_drew ?_))); (case side2 => exact HC363.out); (case side3 => exact cA (Kd.C_below HR0.out HB.out)); (case side4 => exact HC0.out); rintro e w' ⟨rfl, ⟨nd, rfl⟩⟩));go_meet
             case rel => exact ⟨_, (!t364), (by first | rfl | (simp; done) | (simp [*]; done)), H', ⟨by have := HJ5.out; have := HK2.out; first | omega | exact Nat.le_refl _⟩, ⟨rA HO359.out⟩, ⟨hA HB.out⟩⟩
            ·rw [if_neg c38] at H;exact absurd H (by simp)
           ·rw [if_neg c37] at H;exact absurd H (by simp)
        case rest =>
         clear HC33;(try clear c1);(try clear c2);(try clear p2);(try clear c3);(try clear p3);(try clear q3);(try clear hx3);(try clear c4);(try clear q4);(try clear c5);(try clear c6);(try clear p6);(try clear c9);(try clear c11);(try clear c17);(try clear c20);(try clear c20b0);(try clear c21);(try clear c21b0);(try clear c23);(try clear c24);(try clear c24b0);(try clear c24b1);(try clear c35);(try clear c35b0);(try clear c35b1);(try clear p35);(try clear q35);(try clear hx35);(try clear c36);(try clear c36b0);(try clear c37);(try clear c37b0);(try clear c37b1);(try clear c38);(try clear c38b0);(try clear c38b1);(try clear q41);(try clear hx352_0);(try clear hx354_0);(try clear p2);(try clear p352);(try clear p354);(try clear q352);(try clear q354);(try clear q41);obtain ⟨kq, x83_32, rfl, HA, HJ32, HO_8, HB⟩ := hcut
         cases kq with
         | zero => exact absurd HA.out (by simp [sprlaw21_UseMarks.j2])
         | succ kj32 =>
          have H := HA.out;clear HA;simp only [sprlaw21_UseMarks.j2] at H
          by_cases c42 : x83_32 = true
          ·subst c42;(have H1 : (some false) = some r := by rw [if_pos rfl] at H; exact H);clear H;have H := H1;clear H1;exact absurd ((Option.some.inj H).trans hT.out) (by decide)
          ·replace c42 := Bool.eq_false_iff.mpr c42
           subst c42;(have H1 : ((use_Marks.f kj32 l2).bind fun bt365 => (sprlaw21_UseMarks.l1 kj32 l1 t357 bt365.2.2.2.1 bt365.2.2.2.2 (l0.length : Int))) = some r := by rw [if_neg (show ¬ (false = true) by decide)] at H; exact H);clear H;have H := H1;clear H1;replace H := Option.bind_eq_some_iff.mp H;obtain ⟨⟨t365, t366, t367, t368, t369⟩, A430, H⟩ := H;replace H : (sprlaw21_UseMarks.l1 kj32 l1 t357 t368 t369 (l0.length : Int)) = some r := H;have A43 := Aside0.mk A430;clear A430;have H' := Aside0.mk H;clear H;go_wp2_with (first | ((with_reducible refine gate_callee (f:=8) rfl ?_); refine goesL_ (some 86) rfl rfl Tryz.func8 (by kernel_rfl) rfl #[.slice A2 l2.length c2] rfl (by (try simp only [List.map_toArray, List.map_cons, List.map_nil]); first | done | rfl | (simp only [List.length_drop, List.length_take]; rfl)) ?_; (with_reducible refine (use_Marks.calls kj32 _ _ l2 t365 t366 t367 t368 t369 _ ?side1 ?side2 A43.out).mono ?_); (case side1 => exact cA (Kd.C_below HR2.out HB.out)); (case side2 => exact HC2.out); rintro e w44 ⟨rfl, hb⟩; refine ⟨_, rfl, ?_⟩; have n0_ := Aside0.mk (Kd.R_below (rA HO_8.out) hb); have n1_ := Aside0.mk (below_step (hA HB.out) hb); clear HO_8; clear HB; have HO_8 := n0_; have HB := n1_; clear n0_ n1_; (try clear hb); (try clear hb2); (try clear hk); (try clear hi)) | ((with_reducible refine gate_dst (N:=9) rfl ?_); (try (refine gate_guard (by rfl) ?_; dsimp only)); refine box_event ?hg (N:=9) ?hd (cs := #[.bool false, .string (⟨#[]⟩ : ByteArray)]) (t:=29) ?hr ?_; (case hd => rfl); (case hg => rfl); (case hr => first | (go_simp; done) | (go_simp; rfl)); intro gb370 hg w45 hbox hb; have n0_ := Aside0.mk (Kd.R_below (rA HO_8.out) hb); have n1_ := Aside0.mk (below_step (hA HB.out) hb); have n2_ := Aside0.mk (hbox); have n3_ := Aside0.mk ((by rw [hg]; exact (below_size (hA HB.out)) : w.heap.size ≤ gb370)); have n4_ := Aside0.mk ((by rw [hg]; exact (below_size (hA HB.out)) : w.heap.size ≤ gb370)); clear HO_8; clear HB; have HO_8 := n0_; have HB := n1_; have BK370 := n2_; have GW370 := n3_; have GE370 := n4_; clear n0_ n1_ n2_ n3_ n4_; clear hb hbox hg; have hcz46_0 := bC BK370.out 0 rfl; have hcz46_1 := bC BK370.out 1 rfl; have hfz46_0 := blk_frozen BK370.out 0; have hfz46_1 := blk_frozen BK370.out 1));go_loopg [13] kj32 (fun kq v13 w' => ∃ (x13_4 : Int), v13 = .int .i64 x13_4 ∧ Aside0 (sprlaw21_UseMarks.l1 kq l1 t357 t368 t369 x13_4 = some r) ∧ Aside0 (kq ≤ kj32) ∧ Aside0 (Kd.R k33 33 w' w.heap.size (fun _ => True) v358 t357) ∧ Aside0 (w'.heap[gb370]? = some (.cells #[.bool t365, .string t366] 29 (0, 0))) ∧ Aside0 (Below w.heap.size w w'))
           case atStart => exact ⟨((l0.length : Int)), (by first | rfl | (simp; done) | (simp [*]; done)), H', ⟨Nat.le_refl _⟩, ⟨by (with_reducible repeat (first | apply Kd.R_alloc | apply Kd.R_drewN | apply Kd.R_drew)); exact Kd.R_mono (Kd.R_far (p:=⟨gb370, 1, none⟩) (Kd.R_far (p:=⟨gb370, 0, none⟩) (Kd.R_types HO_8.out BK370.out (by decide)) (fun _ hk => hk.2) (.bool t365)) (fun _ hk => hk.2) (.string t366)) (fun _ hk => trivial)⟩, ⟨by (with_reducible repeat (first | refine blk_drewN ?_ _ | refine blk_drew ?_ | refine blk_alloc ?_ _)); refine blk_put (cs := #[.bool t365, .string (⟨#[]⟩ : ByteArray)]) ?_ 1 _ rfl; (with_reducible repeat (first | refine blk_drewN ?_ _ | refine blk_drew ?_ | refine blk_alloc ?_ _)); refine blk_put (cs := #[.bool false, .string (⟨#[]⟩ : ByteArray)]) ?_ 0 _ rfl; (with_reducible repeat (first | refine blk_drewN ?_ _ | refine blk_drew ?_ | refine blk_alloc ?_ _)); exact BK370.out⟩, ⟨hA1 HB.out GE370.out⟩⟩
           case round =>
            clear H';(try clear c1);(try clear c2);(try clear p2);(try clear c3);(try clear p3);(try clear q3);(try clear hx3);(try clear c4);(try clear q4);(try clear c5);(try clear c6);(try clear p6);(try clear c8);(try clear c9);(try clear c11);(try clear c17);(try clear c20);(try clear c20b0);(try clear c21);(try clear c21b0);(try clear c23);(try clear c24);(try clear c24b0);(try clear c24b1);(try clear c35);(try clear c35b0);(try clear c35b1);(try clear p35);(try clear q35);(try clear hx35);(try clear c36);(try clear c36b0);(try clear c37);(try clear c37b0);(try clear c37b1);(try clear c38);(try clear c38b0);(try clear c38b1);(try clear q41);(try clear c42);(try clear hcz46_0);(try clear hcz46_1);(try clear hfz46_0);(try clear hfz46_1);(try clear hx352_0);(try clear hx354_0);(try clear p2);(try clear p3);(try clear p35);(try clear p352);(try clear p354);(try clear p6);(try clear q3);(try clear q35);(try clear q352);(try clear q354);(try clear q4);(try clear q41);obtain ⟨x13_4, rfl, HA, HK4, HO_8, BK370, HB⟩ := hrel
            cases gk with
            | zero => exact absurd HA.out (by simp [sprlaw21_UseMarks.l1])
            | succ k4 =>
             have H := HA.out;clear HA;simp only [sprlaw21_UseMarks.l1] at H
             by_cases c47 : x13_4 < (t357.length : Int)
             ·rw [if_pos c47] at H
              have c47b0 : decide (x13_4 < (t357.length : Int)) = true := decide_eq_true c47;clear c47
              by_cases c48 : 0 ≤ x13_4
              ·rw [if_pos c48] at H
               have c48b0 : decide (0 ≤ x13_4) = true := decide_eq_true c48;clear c48
               by_cases c49 : ((rd_T33 t357 x13_4).f0).toList = ([73, 102, 45, 77, 111, 100, 105, 102, 105, 101, 100, 45, 83, 105, 110, 99, 101] : List UInt8)
               ·rw [if_pos c49] at H
                have c49b0 : (((rd_T33 t357 x13_4).f0).toList == ([73, 102, 45, 77, 111, 100, 105, 102, 105, 101, 100, 45, 83, 105, 110, 99, 101] : List UInt8)) = true := beq_iff_eq.mpr c49;have c49b1 : (((rd_T33 t357 x13_4).f0).toList != ([73, 102, 45, 77, 111, 100, 105, 102, 105, 101, 100, 45, 83, 105, 110, 99, 101] : List UInt8)) = false := bne_eq_false_iff_eq.mpr c49;clear c49
                by_cases c50 : t369 = true
                ·subst c50
                 (have H1 : (if ((rd_T33 t357 x13_4).f1).toList = t368.toList then (sprlaw21_UseMarks.l1 k4 l1 t357 t368 true (wrap64 (x13_4 + 1))) else (some false)) = some r := by rw [if_pos rfl] at H; exact H);clear H;have H := H1;clear H1
                 by_cases c51 : ((rd_T33 t357 x13_4).f1).toList = t368.toList
                 ·rw [if_pos c51] at H
                  have c51b0 : (((rd_T33 t357 x13_4).f1).toList == t368.toList) = true := beq_iff_eq.mpr c51;have c51b1 : (((rd_T33 t357 x13_4).f1).toList != t368.toList) = false := bne_eq_false_iff_eq.mpr c51;clear c51;have H' := Aside0.mk H;clear H;obtain ⟨Ao52, co52, eo52⟩ := Kd.R_slice HO_8.out;subst eo52;have p372 : 0 ≤ (x13_4 : Int) := of_decide_eq_true (by first | (with_reducible assumption) | assumption);have q372 : x13_4 < (t357.length : Int) := of_decide_eq_true (by first | (with_reducible assumption) | assumption);obtain ⟨ad372, e372, hx372_0, hx372_1⟩ := at_T33 (Kd.R_reads' HO_8.out).2.2 x13_4 p372 q372
                  cases e372
                  replace p372 := eq_true p372;replace q372 := eq_true q372;have p373 : 0 ≤ (x13_4 : Int) := of_decide_eq_true (by first | (with_reducible assumption) | assumption);have q373 : x13_4 < (t357.length : Int) := of_decide_eq_true (by first | (with_reducible assumption) | assumption);obtain ⟨ad373, e373, hx373_0, hx373_1⟩ := at_T33 (Kd.R_reads' HO_8.out).2.2 x13_4 p373 q373;obtain rfl : ad372 = ad373 := (by injection e373);replace p373 := eq_true p373;replace q373 := eq_true q373;go_wp2;go_roundg k4
                  case measure => have := HJ5.out; have := HK2.out; have := HJ32.out; have := HK4.out; omega
                  case rel => exact ⟨(wrap64 (x13_4 + 1)), (by first | rfl | (simp; done) | (simp [*]; done)), H', ⟨by have := HJ5.out; have := HK2.out; have := HJ32.out; have := HK4.out; omega⟩, ⟨rA HO_8.out⟩, ⟨bA BK370.out⟩, ⟨hA1 HB.out GE370.out⟩⟩
                 ·rw [if_neg c51] at H;have c51b0 : (((rd_T33 t357 x13_4).f1).toList == t368.toList) = false := beq_eq_false_iff_ne.mpr c51;have c51b1 : (((rd_T33 t357 x13_4).f1).toList != t368.toList) = true := bne_iff_ne.mpr c51;exact absurd ((Option.some.inj H).trans hT.out) (by decide)
                ·replace c50 := Bool.eq_false_iff.mpr c50;subst c50;(have H1 : (some false) = some r := by rw [if_neg (show ¬ (false = true) by decide)] at H; exact H);clear H;have H := H1;clear H1;exact absurd ((Option.some.inj H).trans hT.out) (by decide)
               ·rw [if_neg c49] at H
                have c49b0 : (((rd_T33 t357 x13_4).f0).toList == ([73, 102, 45, 77, 111, 100, 105, 102, 105, 101, 100, 45, 83, 105, 110, 99, 101] : List UInt8)) = false := beq_eq_false_iff_ne.mpr c49;have c49b1 : (((rd_T33 t357 x13_4).f0).toList != ([73, 102, 45, 77, 111, 100, 105, 102, 105, 101, 100, 45, 83, 105, 110, 99, 101] : List UInt8)) = true := bne_iff_ne.mpr c49
                by_cases c53 : ((rd_T33 t357 x13_4).f0).toList = ([73, 102, 45, 78, 111, 110, 101, 45, 77, 97, 116, 99, 104] : List UInt8)
                ·rw [if_pos c53] at H
                 have c53b0 : (((rd_T33 t357 x13_4).f0).toList == ([73, 102, 45, 78, 111, 110, 101, 45, 77, 97, 116, 99, 104] : List UInt8)) = true := beq_iff_eq.mpr c53;have c53b1 : (((rd_T33 t357 x13_4).f0).toList != ([73, 102, 45, 78, 111, 110, 101, 45, 77, 97, 116, 99, 104] : List UInt8)) = false := bne_eq_false_iff_eq.mpr c53;clear c53;have H' := Aside0.mk H;clear H;obtain ⟨Ao54, co54, eo54⟩ := Kd.R_slice HO_8.out;subst eo54;have p372 : 0 ≤ (x13_4 : Int) := of_decide_eq_true (by first | (with_reducible assumption) | assumption);have q372 : x13_4 < (t357.length : Int) := of_decide_eq_true (by first | (with_reducible assumption) | assumption);obtain ⟨ad372, e372, hx372_0, hx372_1⟩ := at_T33 (Kd.R_reads' HO_8.out).2.2 x13_4 p372 q372
                 cases e372
                 replace p372 := eq_true p372;replace q372 := eq_true q372;go_wp2;go_loopg [14] k4 (fun kq v14 w' => ∃ (x14_5 : Int), v14 = .int .i64 x14_5 ∧ Aside0 (sprlaw21_UseMarks.l2 kq l1 t357 t368 t369 x13_4 x14_5 = some r) ∧ Aside0 (kq ≤ k4) ∧ Aside0 (Kd.R k33 33 w' w.heap.size (fun _ => True) (.slice (some ad372) t357.length co54) t357) ∧ Aside0 (w'.heap[gb370]? = some (.cells #[.bool t365, .string t366] 29 (0, 0))) ∧ Aside0 (Below w.heap.size w w'))
                 case atStart => exact ⟨(0), (by first | rfl | (simp; done) | (simp [*]; done)), H', ⟨Nat.le_refl _⟩, ⟨rA HO_8.out⟩, ⟨bA BK370.out⟩, ⟨hA1 HB.out GE370.out⟩⟩
                 case round =>
                  clear H';(try clear c1);(try clear c2);(try clear p2);(try clear c3);(try clear p3);(try clear q3);(try clear hx3);(try clear c4);(try clear q4);(try clear c5);(try clear c6);(try clear p6);(try clear c8);(try clear c9);(try clear c11);(try clear c17);(try clear c20);(try clear c20b0);(try clear c21);(try clear c21b0);(try clear c23);(try clear c24);(try clear c24b0);(try clear c24b1);(try clear c35);(try clear c35b0);(try clear c35b1);(try clear p35);(try clear q35);(try clear hx35);(try clear c36);(try clear c36b0);(try clear c37);(try clear c37b0);(try clear c37b1);(try clear p37);(try clear q37);(try clear hx37);(try clear c38);(try clear c38b0);(try clear c38b1);(try clear q41);(try clear c42);(try clear c47);(try clear c47b0);(try clear c48);(try clear c48b0);(try clear c49);(try clear c49b0);(try clear c49b1);(try clear c50);(try clear c51);(try clear c51b0);(try clear c51b1);(try clear c53);(try clear c53b0);(try clear c53b1);(try clear hcz46_0);(try clear hcz46_1);(try clear hfz46_0);(try clear hfz46_1);(try clear hx352_0);(try clear hx354_0);(try clear hx372_0);(try clear hx372_1);(try clear hx373_0);(try clear hx373_1);(try clear p2);(try clear p3);(try clear p35);(try clear p352);(try clear p354);(try clear p372);(try clear p373);(try clear p6);(try clear q3);(try clear q35);(try clear q352);(try clear q354);(try clear q372);(try clear q373);(try clear q4);(try clear q41);obtain ⟨x14_5, rfl, HA, HK5, HO_8, BK370, HB⟩ := hrel
                  cases gk with
                  | zero => exact absurd HA.out (by simp [sprlaw21_UseMarks.l2])
                  | succ k5 =>
                   have H := HA.out;clear HA;simp only [sprlaw21_UseMarks.l2] at H
                   by_cases c55 : x14_5 < (l1.length : Int)
                   ·rw [if_pos c55] at H
                    have c55b0 : decide (x14_5 < (l1.length : Int)) = true := decide_eq_true c55;clear c55
                    by_cases c56 : 0 ≤ x14_5
                    ·rw [if_pos c56] at H
                     have c56b0 : decide (0 ≤ x14_5) = true := decide_eq_true c56;clear c56;replace H := Option.bind_eq_some_iff.mp H;obtain ⟨⟨t375, t376, t377, t378, t379⟩, A570, H⟩ := H;replace H : ((etag_Print.f k5 t375 t376).bind fun bt381 => (if t377 = true then (if bt381.2 = true then (if 0 ≤ x13_4 then (if x13_4 < (t357.length : Int) then ((sprlaw21_within.f k5 ((rd_T33 t357 x13_4).f1) bt381.1).bind fun t384 => (if t384 = true then (sprlaw21_UseMarks.l2 k5 l1 t357 t368 t369 x13_4 (wrap64 (x14_5 + 1))) else (some false))) else (none)) else (none)) else (some false)) else (sprlaw21_UseMarks.l2 k5 l1 t357 t368 t369 x13_4 (wrap64 (x14_5 + 1))))) = some r := H;have A57 := Aside0.mk A570;clear A570;replace H := Option.bind_eq_some_iff.mp H;obtain ⟨⟨t381, t382⟩, A580, H⟩ := H;replace H : (if t377 = true then (if t382 = true then (if 0 ≤ x13_4 then (if x13_4 < (t357.length : Int) then ((sprlaw21_within.f k5 ((rd_T33 t357 x13_4).f1) t381).bind fun t384 => (if t384 = true then (sprlaw21_UseMarks.l2 k5 l1 t357 t368 t369 x13_4 (wrap64 (x14_5 + 1))) else (some false))) else (none)) else (none)) else (some false)) else (sprlaw21_UseMarks.l2 k5 l1 t357 t368 t369 x13_4 (wrap64 (x14_5 + 1)))) = some r := H;have A58 := Aside0.mk A580;clear A580
                     by_cases c59 : t377 = true
                     ·subst c59
                      (have H1 : (if t382 = true then (if 0 ≤ x13_4 then (if x13_4 < (t357.length : Int) then ((sprlaw21_within.f k5 ((rd_T33 t357 x13_4).f1) t381).bind fun t384 => (if t384 = true then (sprlaw21_UseMarks.l2 k5 l1 t357 t368 t369 x13_4 (wrap64 (x14_5 + 1))) else (some false))) else (none)) else (none)) else (some false)) = some r := by rw [if_pos rfl] at H; exact H);clear H;have H := H1;clear H1
                      by_cases c60 : t382 = true
                      ·subst c60
                       (have H1 : (if 0 ≤ x13_4 then (if x13_4 < (t357.length : Int) then ((sprlaw21_within.f k5 ((rd_T33 t357 x13_4).f1) t381).bind fun t384 => (if t384 = true then (sprlaw21_UseMarks.l2 k5 l1 t357 t368 t369 x13_4 (wrap64 (x14_5 + 1))) else (some false))) else (none)) else (none)) = some r := by rw [if_pos rfl] at H; exact H);clear H;have H := H1;clear H1
                       by_cases c61 : 0 ≤ x13_4
                       ·rw [if_pos c61] at H
                        have c61b0 : decide (0 ≤ x13_4) = true := decide_eq_true c61;clear c61
                        by_cases c62 : x13_4 < (t357.length : Int)
                        ·rw [if_pos c62] at H
                         have c62b0 : decide (x13_4 < (t357.length : Int)) = true := decide_eq_true c62;clear c62;replace H := Option.bind_eq_some_iff.mp H;obtain ⟨t384, A630, H⟩ := H;replace H : (if t384 = true then (sprlaw21_UseMarks.l2 k5 l1 t357 t368 t369 x13_4 (wrap64 (x14_5 + 1))) else (some false)) = some r := H;have A63 := Aside0.mk A630;clear A630
                         by_cases c64 : t384 = true
                         ·subst c64
                          (have H1 : (sprlaw21_UseMarks.l2 k5 l1 t357 t368 t369 x13_4 (wrap64 (x14_5 + 1))) = some r := by rw [if_pos rfl] at H; exact H);clear H;have H := H1;clear H1;have H' := Aside0.mk H;clear H;have p374 : 0 ≤ (x14_5 : Int) := of_decide_eq_true (by first | (with_reducible assumption) | assumption);have q374 : x14_5 < (l1.length : Int) := of_decide_eq_true (by first | (with_reducible assumption) | assumption);obtain ⟨ad374, A374_0, c374_0, e374, hx374_0, hl374_0, hi374_0⟩ := at_L2 HR1.out x14_5 p374 q374
                          cases e374
                          replace hx374_0 := (HB.out.cell (World.block_lt_of_cell? w _ hx374_0)).trans hx374_0;have HR374_0 := Aside0.mk hi374_0;have HC374_0 := Aside0.mk hl374_0;clear hi374_0 hl374_0;replace p374 := eq_true p374;replace q374 := eq_true q374;go_wp2_with (first | ((with_reducible refine gate_callee (f:=8) rfl ?_); refine goesL_ (some 130) rfl rfl Tryz.func8 (by kernel_rfl) rfl #[.slice A374_0 (rd_L2 l1 x14_5).length c374_0] rfl (by (try simp only [List.map_toArray, List.map_cons, List.map_nil]); first | done | rfl | (simp only [List.length_drop, List.length_take]; rfl)) ?_; (with_reducible refine (use_Marks.calls k5 _ _ (rd_L2 l1 x14_5) t375 t376 true t378 t379 _ ?side1 ?side2 A57.out).mono ?_); (case side1 => exact cA (Kd.C_below HR374_0.out HB.out)); (case side2 => exact HC374_0.out); rintro e w65 ⟨rfl, hb⟩; refine ⟨_, rfl, ?_⟩; have n0_ := Aside0.mk (Kd.R_below (rA HO_8.out) hb); have n1_ := Aside0.mk (blk_below (bA BK370.out) hb); have n2_ := Aside0.mk (below_step (hA1 HB.out GE370.out) hb); clear HO_8; clear BK370; clear HB; have HO_8 := n0_; have BK370 := n1_; have HB := n2_; clear n0_ n1_ n2_; (try clear hb); (try clear hb2); (try clear hk); (try clear hi)) | ((with_reducible refine gate_dst (N:=15) rfl ?_); (try (refine gate_guard (by rfl) ?_; dsimp only)); refine box_event ?hg (N:=15) ?hd (cs := #[.bool false, .string (⟨#[]⟩ : ByteArray)]) (t:=29) ?hr ?_; (case hd => rfl); (case hg => rfl); (case hr => first | (go_simp; done) | (go_simp; rfl)); intro gb380 hg w66 hbox hb; have n0_ := Aside0.mk (Kd.R_below (rA HO_8.out) hb); have n1_ := Aside0.mk (blk_below (bA BK370.out) hb); have n2_ := Aside0.mk (below_step (hA1 HB.out GE370.out) hb); have n3_ := Aside0.mk (hbox); have n4_ := Aside0.mk ((by rw [hg]; exact (below_size (hA1 HB.out GE370.out)) : w.heap.size ≤ gb380)); have n5_ := Aside0.mk ((by rw [hg]; exact (below_size (hA1 HB.out GE370.out)) : w.heap.size ≤ gb380)); have n6_ := Aside0.mk ((by rw [hg]; exact Nat.ne_of_lt (blk_lt (bA BK370.out)) : gb370 ≠ gb380)); have n7_ := Aside0.mk ((by rw [hg]; exact Nat.ne_of_gt (blk_lt (bA BK370.out)) : gb380 ≠ gb370)); clear HO_8; clear BK370; clear HB; have HO_8 := n0_; have BK370 := n1_; have HB := n2_; have BK380 := n3_; have GW380 := n4_; have GE380 := n5_; have NB370_380 := n6_; have NB380_370 := n7_; clear n0_ n1_ n2_ n3_ n4_ n5_ n6_ n7_; clear hb hbox hg; have hnb67 := NB380_370.out; have hnc67 := NB370_380.out; have hcz68_0 := bC BK380.out 0 rfl; have hcz68_1 := bC BK380.out 1 rfl; have hfz68_0 := blk_frozen BK380.out 0; have hfz68_1 := blk_frozen BK380.out 1) | ((with_reducible refine gate_callee (f:=9) rfl ?_); refine goesL_ (some 137) rfl rfl Tryz.func9 (by kernel_rfl) rfl #[.agg #[.bool t375, .string t376]] rfl (by (try simp only [List.map_toArray, List.map_cons, List.map_nil]); first | done | rfl | (simp only [List.length_drop, List.length_take]; rfl)) ?_; (with_reducible refine (etag_Print.calls k5 t375 t376 t381 true _ A58.out).mono ?_); rintro e w69 ⟨rfl, hb⟩; refine ⟨_, rfl, ?_⟩; have n0_ := Aside0.mk (Kd.R_below (by (with_reducible repeat (first | apply Kd.R_alloc | apply Kd.R_drewN | apply Kd.R_drew)); exact (Kd.R_mono (Kd.R_far (p:=⟨gb380, 1, none⟩) (Kd.R_far (p:=⟨gb380, 0, none⟩) (Kd.R_types HO_8.out BK380.out (by decide)) (fun _ hk => hk.2) (.bool t375)) (fun _ hk => hk.2) (.string t376)) (fun _ h_ => h_.1))) hb); have n1_ := Aside0.mk (blk_below (g:=gb370) (o:=.cells #[.bool t365, .string t366] 29 (0, 0)) (by (with_reducible repeat (first | refine blk_drewN ?_ _ | refine blk_drew ?_ | refine blk_alloc ?_ _)); refine blk_far ?_ NB370_380.out _; (with_reducible repeat (first | refine blk_drewN ?_ _ | refine blk_drew ?_ | refine blk_alloc ?_ _)); refine blk_far ?_ NB370_380.out _; (with_reducible repeat (first | refine blk_drewN ?_ _ | refine blk_drew ?_ | refine blk_alloc ?_ _)); exact BK370.out) hb); have n2_ := Aside0.mk (blk_below (g:=gb380) (o:=.cells #[.bool t375, .string t376] 29 (0, 0)) (by (with_reducible repeat (first | refine blk_drewN ?_ _ | refine blk_drew ?_ | refine blk_alloc ?_ _)); refine blk_put (cs := #[.bool t375, .string (⟨#[]⟩ : ByteArray)]) ?_ 1 _ rfl; (with_reducible repeat (first | refine blk_drewN ?_ _ | refine blk_drew ?_ | refine blk_alloc ?_ _)); refine blk_put (cs := #[.bool false, .string (⟨#[]⟩ : ByteArray)]) ?_ 0 _ rfl; (with_reducible repeat (first | refine blk_drewN ?_ _ | refine blk_drew ?_ | refine blk_alloc ?_ _)); exact BK380.out) hb); have n3_ := Aside0.mk (below_step (hA2 HB.out GE370.out GE380.out) hb); clear HO_8; clear BK370; clear BK380; clear HB; have HO_8 := n0_; have BK370 := n1_; have BK380 := n2_; have HB := n3_; clear n0_ n1_ n2_ n3_; (try clear hb); (try clear hb2); (try clear hk); (try clear hi); have p383 : 0 ≤ (x13_4 : Int) := of_decide_eq_true (by first | (with_reducible assumption) | assumption); have q383 : x13_4 < (t357.length : Int) := of_decide_eq_true (by first | (with_reducible assumption) | assumption); obtain ⟨ad383, e383, hx383_0, hx383_1⟩ := at_T33 (Kd.R_reads' HO_8.out).2.2 x13_4 p383 q383; obtain rfl : ad372 = ad383 := (by injection e383); replace p383 := eq_true p383; replace q383 := eq_true q383) | (go_at_call 10; (with_reducible refine (sprlaw21_within.calls k5 ((rd_T33 t357 x13_4).f1) t381 true _ A63.out).mono ?_); rintro e w' ⟨rfl, ⟨nd, rfl⟩⟩));go_roundg k5
                          case measure => have := HJ5.out; have := HK2.out; have := HJ32.out; have := HK4.out; have := HK5.out; omega
                          case rel => exact ⟨(wrap64 (x14_5 + 1)), (by first | rfl | (simp; done) | (simp [*]; done)), H', ⟨by have := HJ5.out; have := HK2.out; have := HJ32.out; have := HK4.out; have := HK5.out; omega⟩, ⟨rA HO_8.out⟩, ⟨bA BK370.out⟩, ⟨hA2 HB.out GE370.out GE380.out⟩⟩
                         ·replace c64 := Bool.eq_false_iff.mpr c64;subst c64;(have H1 : (some false) = some r := by rw [if_neg (show ¬ (false = true) by decide)] at H; exact H);clear H;have H := H1;clear H1;exact absurd ((Option.some.inj H).trans hT.out) (by decide)
                        ·rw [if_neg c62] at H;exact absurd H (by simp)
                       ·rw [if_neg c61] at H;exact absurd H (by simp)
                      ·replace c60 := Bool.eq_false_iff.mpr c60;subst c60;(have H1 : (some false) = some r := by rw [if_neg (show ¬ (false = true) by decide)] at H; exact H);clear H;have H := H1;clear H1;exact absurd ((Option.some.inj H).trans hT.out) (by decide)
                     ·replace c59 := Bool.eq_false_iff.mpr c59
                      subst c59;(have H1 : (sprlaw21_UseMarks.l2 k5 l1 t357 t368 t369 x13_4 (wrap64 (x14_5 + 1))) = some r := by rw [if_neg (show ¬ (false = true) by decide)] at H; exact H);clear H;have H := H1;clear H1;have H' := Aside0.mk H;clear H;have p374 : 0 ≤ (x14_5 : Int) := of_decide_eq_true (by first | (with_reducible assumption) | assumption);have q374 : x14_5 < (l1.length : Int) := of_decide_eq_true (by first | (with_reducible assumption) | assumption);obtain ⟨ad374, A374_0, c374_0, e374, hx374_0, hl374_0, hi374_0⟩ := at_L2 HR1.out x14_5 p374 q374
                      cases e374
                      replace hx374_0 := (HB.out.cell (World.block_lt_of_cell? w _ hx374_0)).trans hx374_0;have HR374_0 := Aside0.mk hi374_0;have HC374_0 := Aside0.mk hl374_0;clear hi374_0 hl374_0;replace p374 := eq_true p374;replace q374 := eq_true q374;go_wp2_with (first | ((with_reducible refine gate_callee (f:=8) rfl ?_); refine goesL_ (some 130) rfl rfl Tryz.func8 (by kernel_rfl) rfl #[.slice A374_0 (rd_L2 l1 x14_5).length c374_0] rfl (by (try simp only [List.map_toArray, List.map_cons, List.map_nil]); first | done | rfl | (simp only [List.length_drop, List.length_take]; rfl)) ?_; (with_reducible refine (use_Marks.calls k5 _ _ (rd_L2 l1 x14_5) t375 t376 false t378 t379 _ ?side1 ?side2 A57.out).mono ?_); (case side1 => exact cA (Kd.C_below HR374_0.out HB.out)); (case side2 => exact HC374_0.out); rintro e w70 ⟨rfl, hb⟩; refine ⟨_, rfl, ?_⟩; have n0_ := Aside0.mk (Kd.R_below (rA HO_8.out) hb); have n1_ := Aside0.mk (blk_below (bA BK370.out) hb); have n2_ := Aside0.mk (below_step (hA1 HB.out GE370.out) hb); clear HO_8; clear BK370; clear HB; have HO_8 := n0_; have BK370 := n1_; have HB := n2_; clear n0_ n1_ n2_; (try clear hb); (try clear hb2); (try clear hk); (try clear hi)) | ((with_reducible refine gate_dst (N:=15) rfl ?_); (try (refine gate_guard (by rfl) ?_; dsimp only)); refine box_event ?hg (N:=15) ?hd (cs := #[.bool false, .string (⟨#[]⟩ : ByteArray)]) (t:=29) ?hr ?_; (case hd => rfl); (case hg => rfl); (case hr => first | (go_simp; done) | (go_simp; rfl)); intro gb380 hg w71 hbox hb; have n0_ := Aside0.mk (Kd.R_below (rA HO_8.out) hb); have n1_ := Aside0.mk (blk_below (bA BK370.out) hb); have n2_ := Aside0.mk (below_step (hA1 HB.out GE370.out) hb); have n3_ := Aside0.mk (hbox); have n4_ := Aside0.mk ((by rw [hg]; exact (below_size (hA1 HB.out GE370.out)) : w.heap.size ≤ gb380)); have n5_ := Aside0.mk ((by rw [hg]; exact (below_size (hA1 HB.out GE370.out)) : w.heap.size ≤ gb380)); have n6_ := Aside0.mk ((by rw [hg]; exact Nat.ne_of_lt (blk_lt (bA BK370.out)) : gb370 ≠ gb380)); have n7_ := Aside0.mk ((by rw [hg]; exact Nat.ne_of_gt (blk_lt (bA BK370.out)) : gb380 ≠ gb370)); clear HO_8; clear BK370; clear HB; have HO_8 := n0_; have BK370 := n1_; have HB := n2_; have BK380 := n3_; have GW380 := n4_; have GE380 := n5_; have NB370_380 := n6_; have NB380_370 := n7_; clear n0_ n1_ n2_ n3_ n4_ n5_ n6_ n7_; clear hb hbox hg; have hnb72 := NB380_370.out; have hnc72 := NB370_380.out; have hcz73_0 := bC BK380.out 0 rfl; have hcz73_1 := bC BK380.out 1 rfl; have hfz73_0 := blk_frozen BK380.out 0; have hfz73_1 := blk_frozen BK380.out 1) | ((with_reducible refine gate_callee (f:=9) rfl ?_); refine goesL_ (some 137) rfl rfl Tryz.func9 (by kernel_rfl) rfl #[.agg #[.bool t375, .string t376]] rfl (by (try simp only [List.map_toArray, List.map_cons, List.map_nil]); first | done | rfl | (simp only [List.length_drop, List.length_take]; rfl)) ?_; (with_reducible refine (etag_Print.calls k5 t375 t376 t381 t382 _ A58.out).mono ?_); rintro e w74 ⟨rfl, hb⟩; refine ⟨_, rfl, ?_⟩; have n0_ := Aside0.mk (Kd.R_below (by (with_reducible repeat (first | apply Kd.R_alloc | apply Kd.R_drewN | apply Kd.R_drew)); exact (Kd.R_mono (Kd.R_far (p:=⟨gb380, 1, none⟩) (Kd.R_far (p:=⟨gb380, 0, none⟩) (Kd.R_types HO_8.out BK380.out (by decide)) (fun _ hk => hk.2) (.bool t375)) (fun _ hk => hk.2) (.string t376)) (fun _ h_ => h_.1))) hb); have n1_ := Aside0.mk (blk_below (g:=gb370) (o:=.cells #[.bool t365, .string t366] 29 (0, 0)) (by (with_reducible repeat (first | refine blk_drewN ?_ _ | refine blk_drew ?_ | refine blk_alloc ?_ _)); refine blk_far ?_ NB370_380.out _; (with_reducible repeat (first | refine blk_drewN ?_ _ | refine blk_drew ?_ | refine blk_alloc ?_ _)); refine blk_far ?_ NB370_380.out _; (with_reducible repeat (first | refine blk_drewN ?_ _ | refine blk_drew ?_ | refine blk_alloc ?_ _)); exact BK370.out) hb); have n2_ := Aside0.mk (blk_below (g:=gb380) (o:=.cells #[.bool t375, .string t376] 29 (0, 0)) (by (with_reducible repeat (first | refine blk_drewN ?_ _ | refine blk_drew ?_ | refine blk_alloc ?_ _)); refine blk_put (cs := #[.bool t375, .string (⟨#[]⟩ : ByteArray)]) ?_ 1 _ rfl; (with_reducible repeat (first | refine blk_drewN ?_ _ | refine blk_drew ?_ | refine blk_alloc ?_ _)); refine blk_put (cs := #[.bool false, .string (⟨#[]⟩ : ByteArray)]) ?_ 0 _ rfl; (with_reducible repeat (first | refine blk_drewN ?_ _ | refine blk_drew ?_ | refine blk_alloc ?_ _)); exact BK380.out) hb); have n3_ := Aside0.mk (below_step (hA2 HB.out GE370.out GE380.out) hb); clear HO_8; clear BK370; clear BK380; clear HB; have HO_8 := n0_; have BK370 := n1_; have BK380 := n2_; have HB := n3_; clear n0_ n1_ n2_ n3_; (try clear hb); (try clear hb2); (try clear hk); (try clear hi)));go_roundg k5
                      case measure => have := HJ5.out; have := HK2.out; have := HJ32.out; have := HK4.out; have := HK5.out; omega
                      case rel => exact ⟨(wrap64 (x14_5 + 1)), (by first | rfl | (simp; done) | (simp [*]; done)), H', ⟨by have := HJ5.out; have := HK2.out; have := HJ32.out; have := HK4.out; have := HK5.out; omega⟩, ⟨rA HO_8.out⟩, ⟨bA BK370.out⟩, ⟨hA2 HB.out GE370.out GE380.out⟩⟩
                    ·rw [if_neg c56] at H;exact absurd H (by simp)
                   ·rw [if_neg c55] at H
                    have c55b0 : decide (x14_5 < (l1.length : Int)) = false := decide_eq_false c55;clear c55;have H' := Aside0.mk H;clear H;go_wp2;go_roundg k5
                    case measure => have := HJ5.out; have := HK2.out; have := HJ32.out; have := HK4.out; have := HK5.out; omega
                    case rel => exact ⟨(wrap64 (x13_4 + 1)), (by first | rfl | (simp; done) | (simp [*]; done)), H', ⟨by have := HJ5.out; have := HK2.out; have := HJ32.out; have := HK4.out; have := HK5.out; omega⟩, ⟨rA HO_8.out⟩, ⟨bA BK370.out⟩, ⟨hA1 HB.out GE370.out⟩⟩
                ·rw [if_neg c53] at H;have c53b0 : (((rd_T33 t357 x13_4).f0).toList == ([73, 102, 45, 78, 111, 110, 101, 45, 77, 97, 116, 99, 104] : List UInt8)) = false := beq_eq_false_iff_ne.mpr c53;have c53b1 : (((rd_T33 t357 x13_4).f0).toList != ([73, 102, 45, 78, 111, 110, 101, 45, 77, 97, 116, 99, 104] : List UInt8)) = true := bne_iff_ne.mpr c53;exact absurd ((Option.some.inj H).trans hT.out) (by decide)
              ·rw [if_neg c48] at H;exact absurd H (by simp)
             ·rw [if_neg c47] at H;have c47b0 : decide (x13_4 < (t357.length : Int)) = false := decide_eq_false c47;clear c47;replace H := Option.bind_eq_some_iff.mp H;obtain ⟨t371, A750, H⟩ := H;replace H : (some t371) = some r := H;have A75 := Aside0.mk A750;clear A750;obtain rfl := Option.some.inj H;obtain ⟨Ao76, co76, eo76⟩ := Kd.R_slice HO_8.out;subst eo76;go_wp2_with (first | ((with_reducible refine gate_callee (f:=4) rfl ?_); refine goesL_ (some 155) rfl rfl Tryz.func4 (by kernel_rfl) rfl #[] rfl (by (try simp only [List.map_toArray, List.map_cons, List.map_nil]); first | done | rfl | (simp only [List.length_drop, List.length_take]; rfl)) ?_; (with_reducible refine (sprlaw21_first.calls k4  t371 _ A75.out).mono ?_); rintro e w77 ⟨rfl, hb⟩; refine ⟨_, rfl, ?_⟩; have n0_ := Aside0.mk (Kd.R_below (rA HO_8.out) hb); have n1_ := Aside0.mk (blk_below (bA BK370.out) hb); have n2_ := Aside0.mk (below_step (hA1 HB.out GE370.out) hb); clear HO_8; clear BK370; clear HB; have HO_8 := n0_; have BK370 := n1_; have HB := n2_; clear n0_ n1_ n2_; (try clear hb); (try clear hb2); (try clear hk); (try clear hi)));go_ret;exact ⟨by first | rfl | (simp [errW_none, errW_some] <;> rfl) | (simp [*, errW_none, errW_some] <;> rfl), by repeat (first | (with_reducible first | exact HB.out | apply below_alloc | apply pw_below_drewN | apply below_drew1 | refine below_set ?_ GE370.out) | exact HB.out)⟩
 ·replace c5 := Bool.eq_false_iff.mpr c5;subst c5;(have H1 : (some false) = some r := by rw [if_neg (show ¬ (false = true) by decide)] at H; exact H);clear H;have H := H1;clear H1;exact absurd ((Option.some.inj H).trans hT.out) (by decide)
end Go.Proofs.YtfjeagglminhoaaGreatDoor.Q
