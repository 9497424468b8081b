-- Written by a program of this session's (wip/xprint.py), out of the seat's translation.
import Derived.Test.YtalmcjdlfppkdaaDoorQ0
import Derived.Test.YtalmcjdlfppkdaaDoorQ2
import Derived.Test.YtalmcjdlfppkdaaDoorQ3
import Derived.Test.YtalmcjdlfppkdaaDoorQ4
import Derived.Test.YtalmcjdlfppkdaaDoorQ6
import Derived.Test.YtalmcjdlfppkdaaDoorQ8
import Derived.Test.YtalmcjdlfppkdaaDoorQ9
import Derived.Test.YtalmcjdlfppkdaaDoorQ11
namespace Go.Proofs.YtalmcjdlfppkdaaDoor.Q
open Go.RowKit Go.Proofs.YtalmcjdlfppkdaaDoorW.PrintWords Go.Proofs.YtalmcjdlfppkdaaDoorW.PrintLast Go.Proofs.YtalmcjdlfppkdaaDoorW.PrintMore
attribute [local go_sem] max2_int min2_int max_two min_two max_three min_three max_four min_four   -- for this text's walks alone
set_option linter.unusedVariables false
set_option linter.unusedSimpArgs false

attribute [local go_sem high] eqA38
/-! ### sprlaw16_EtagReads: function 6 -/
mutual
def sprlaw16_EtagReads.j0 : Nat → ByteArray → List ByteArray → Bool → Bool → ByteArray → Bool → ByteArray → Option (Bool)
  | 0, _, _, _, _, _, _, _ => none
  | k + 1, x0, x3, x46, x333000, x333001, x334000, x334001 => if x46 = true then ((sprlaw16_first.f k).bind fun t336 => (some t336)) else ((sprref_CopyTexts.f x3).bind fun t337 => ((etag_Parse.f k x0).bind fun bt340 => ((sprref14_ParseTag.f k x0).bind fun bt344 => ((etag_Print.f k x333000 x333001).bind fun bt348 => ((sprlaw16_Plain.f x333000 x333001).bind fun bt350 => ((sprref14_PrintTag.f k bt350.1 bt350.2).bind fun bt352 => ((etag_List.f k t337).bind fun bt354 => ((sprref14_Tags.f k x3).bind fun bt359 => (if (bt354.1.length : Int) = (bt359.1.length : Int) then (if (bt354.2.1 != bt359.2.1) = true then (sprlaw16_EtagReads.j1 k bt340.2.2 bt344.2.2 bt348.1 bt348.2 bt352.1 bt352.2 bt354.1 bt359.1 true x333000 x333001 x334000 x334001 bt340.1 bt340.2.1 bt344.1 bt344.2.1) else (if (bt354.2.2 != bt359.2.2) = true then (sprlaw16_EtagReads.j1 k bt340.2.2 bt344.2.2 bt348.1 bt348.2 bt352.1 bt352.2 bt354.1 bt359.1 true x333000 x333001 x334000 x334001 bt340.1 bt340.2.1 bt344.1 bt344.2.1) else ((sprref_Texts.f k t337 x3).bind fun t364 => (sprlaw16_EtagReads.j1 k bt340.2.2 bt344.2.2 bt348.1 bt348.2 bt352.1 bt352.2 bt354.1 bt359.1 (!t364) x333000 x333001 x334000 x334001 bt340.1 bt340.2.1 bt344.1 bt344.2.1)))) else (sprlaw16_EtagReads.j1 k bt340.2.2 bt344.2.2 bt348.1 bt348.2 bt352.1 bt352.2 bt354.1 bt359.1 true x333000 x333001 x334000 x334001 bt340.1 bt340.2.1 bt344.1 bt344.2.1))))))))))
def sprlaw16_EtagReads.j1 : Nat → Bool → Bool → ByteArray → Bool → ByteArray → Bool → List (S23) → List (S38) → Bool → Bool → ByteArray → Bool → ByteArray → Bool → ByteArray → Bool → ByteArray → Option (Bool)
  | 0, _, _, _, _, _, _, _, _, _, _, _, _, _, _, _, _, _ => none
  | k + 1, x11, x13, x14, x15, x16, x17, x18, x21, x103, x333000, x333001, x334000, x334001, x344000, x344001, x348000, x348001 => if x103 = true then (some false) else (sprlaw16_EtagReads.l0 k x11 x13 x14 x15 x16 x17 x18 x21 0 x333000 x333001 x334000 x334001 x344000 x344001 x348000 x348001)
def sprlaw16_EtagReads.l0 : Nat → Bool → Bool → ByteArray → Bool → ByteArray → Bool → List (S23) → List (S38) → Int → Bool → ByteArray → Bool → ByteArray → Bool → ByteArray → Bool → ByteArray → Option (Bool)
  | 0, _, _, _, _, _, _, _, _, _, _, _, _, _, _, _, _, _ => none
  | k + 1, x11, x13, x14, x15, x16, x17, x18, x21, x24, x333000, x333001, x334000, x334001, x344000, x344001, x348000, x348001 => if x24 < (x18.length : Int) then (if 0 ≤ x24 then ((sprlaw16_Plain.f ((rd_T23 x18 x24).f0) ((rd_T23 x18 x24).f1)).bind fun bt366 => (if x24 < (x21.length : Int) then (if (!(bt366.1 == ((rd_T38 x21 x24).f0)) || (!(bt366.2.toList == (((rd_T38 x21 x24).f1).toList)))) = true then (some false) else (sprlaw16_EtagReads.l0 k x11 x13 x14 x15 x16 x17 x18 x21 (wrap64 (x24 + 1)) x333000 x333001 x334000 x334001 x344000 x344001 x348000 x348001)) else (none))) else (none)) else ((sprlaw16_first.f k).bind fun t369 => (if t369 = true then ((sprlaw16_Plain.f x344000 x344001).bind fun bt370 => (if (bt370.1 == x348000 && (bt370.2.toList == x348001.toList)) = true then (if (x11 == x13) = true then (if x14.toList = x16.toList then (if (x15 == x17) = true then ((etag_Strong.f x333000 x333001 x334000 x334001).bind fun t372 => ((sprlaw16_Plain.f x333000 x333001).bind fun bt373 => ((sprlaw16_Plain.f x334000 x334001).bind fun bt375 => ((sprref14_Strong.f bt373.1 bt373.2 bt375.1 bt375.2).bind fun t377 => (if (t372 == t377) = true then ((etag_Weak.f x333000 x333001 x334000 x334001).bind fun t378 => ((sprlaw16_Plain.f x333000 x333001).bind fun bt379 => ((sprlaw16_Plain.f x334000 x334001).bind fun bt381 => ((sprref14_Weak.f bt379.1 bt379.2 bt381.1 bt381.2).bind fun t383 => (some (t378 == t383)))))) else (some false)))))) else (some false)) else (some false)) else (some false)) else (some false))) else (some false)))
end
def sprlaw16_EtagReads.f (k : Nat) (a0 : ByteArray) (a1_0 : Bool) (a1_1 : ByteArray) (a2_0 : Bool) (a2_1 : ByteArray) (l3 : List ByteArray) : Option (Bool) := (sprlaw16_first.f k).bind fun t334 => (if t334 = true then (if (a0.size : Int) > 20000 then (sprlaw16_EtagReads.j0 k a0 l3 true a1_0 a1_1 a2_0 a2_1) else (if (a1_1.size : Int) > 20000 then (sprlaw16_EtagReads.j0 k a0 l3 true a1_0 a1_1 a2_0 a2_1) else (if (a2_1.size : Int) > 20000 then (sprlaw16_EtagReads.j0 k a0 l3 true a1_0 a1_1 a2_0 a2_1) else ((sprlaw16_texts.f k l3).bind fun t335 => (sprlaw16_EtagReads.j0 k a0 l3 (!t335) a1_0 a1_1 a2_0 a2_1))))) else (some false))
theorem sprlaw16_EtagReads.mono_l : ∀ k, (∀ y0 y1 y2 y3 y4 y5 y6, LeO (sprlaw16_EtagReads.j0 k y0 y1 y2 y3 y4 y5 y6) (sprlaw16_EtagReads.j0 (k + 1) y0 y1 y2 y3 y4 y5 y6)) ∧ (∀ y0 y1 y2 y3 y4 y5 y6 y7 y8 y9 y10 y11 y12 y13 y14 y15 y16, LeO (sprlaw16_EtagReads.j1 k y0 y1 y2 y3 y4 y5 y6 y7 y8 y9 y10 y11 y12 y13 y14 y15 y16) (sprlaw16_EtagReads.j1 (k + 1) y0 y1 y2 y3 y4 y5 y6 y7 y8 y9 y10 y11 y12 y13 y14 y15 y16)) ∧ (∀ y0 y1 y2 y3 y4 y5 y6 y7 y8 y9 y10 y11 y12 y13 y14 y15 y16, LeO (sprlaw16_EtagReads.l0 k y0 y1 y2 y3 y4 y5 y6 y7 y8 y9 y10 y11 y12 y13 y14 y15 y16) (sprlaw16_EtagReads.l0 (k + 1) y0 y1 y2 y3 y4 y5 y6 y7 y8 y9 y10 y11 y12 y13 y14 y15 y16))
  | 0 => ⟨fun _ _ _ _ _ _ _ r h => by simp [sprlaw16_EtagReads.j0] at h, fun _ _ _ _ _ _ _ _ _ _ _ _ _ _ _ _ _ r h => by simp [sprlaw16_EtagReads.j1] at h, fun _ _ _ _ _ _ _ _ _ _ _ _ _ _ _ _ _ r h => by simp [sprlaw16_EtagReads.l0] at h⟩
  | k + 1 => by
    obtain ⟨ih0, ih1, ih2⟩ := sprlaw16_EtagReads.mono_l k
    refine ⟨?_, ?_, ?_⟩
    · intro y0 y1 y2 y3 y4 y5 y6
      unfold sprlaw16_EtagReads.j0
      repeat' first
      | (with_reducible exact ih0 _ _ _ _ _ _ _)
      | (with_reducible exact ih1 _ _ _ _ _ _ _ _ _ _ _ _ _ _ _ _ _)
      | (with_reducible exact ih2 _ _ _ _ _ _ _ _ _ _ _ _ _ _ _ _ _)
      | (with_reducible exact etag_List.mono _ _)
      | (with_reducible exact etag_Parse.mono _ _)
      | (with_reducible exact etag_Print.mono _ _ _)
      | (with_reducible exact sprlaw16_first.mono _)
      | (with_reducible exact sprlaw16_texts.mono _ _)
      | (with_reducible exact sprref14_ParseTag.mono _ _)
      | (with_reducible exact sprref14_PrintTag.mono _ _ _)
      | (with_reducible exact sprref14_Tags.mono _ _)
      | (with_reducible exact sprref_Texts.mono _ _ _)
      | (with_reducible exact LeO.refl _)
      | (with_reducible exact LeO.none _)
      | (with_reducible refine LeO.ite ?_ ?_)
      | (with_reducible refine LeO.bind ?_ (fun _ => ?_))
      | exact ih0 _ _ _ _ _ _ _
      | exact ih1 _ _ _ _ _ _ _ _ _ _ _ _ _ _ _ _ _
      | exact ih2 _ _ _ _ _ _ _ _ _ _ _ _ _ _ _ _ _
      | exact etag_List.mono _ _
      | exact etag_Parse.mono _ _
      | exact etag_Print.mono _ _ _
      | exact sprlaw16_first.mono _
      | exact sprlaw16_texts.mono _ _
      | exact sprref14_ParseTag.mono _ _
      | exact sprref14_PrintTag.mono _ _ _
      | exact sprref14_Tags.mono _ _
      | exact sprref_Texts.mono _ _ _
      | exact LeO.none _
      | refine LeO.ite ?_ ?_
      | refine LeO.bind ?_ (fun _ => ?_)
    · intro y0 y1 y2 y3 y4 y5 y6 y7 y8 y9 y10 y11 y12 y13 y14 y15 y16
      unfold sprlaw16_EtagReads.j1
      repeat' first
      | (with_reducible exact ih0 _ _ _ _ _ _ _)
      | (with_reducible exact ih1 _ _ _ _ _ _ _ _ _ _ _ _ _ _ _ _ _)
      | (with_reducible exact ih2 _ _ _ _ _ _ _ _ _ _ _ _ _ _ _ _ _)
      | (with_reducible exact etag_List.mono _ _)
      | (with_reducible exact etag_Parse.mono _ _)
      | (with_reducible exact etag_Print.mono _ _ _)
      | (with_reducible exact sprlaw16_first.mono _)
      | (with_reducible exact sprlaw16_texts.mono _ _)
      | (with_reducible exact sprref14_ParseTag.mono _ _)
      | (with_reducible exact sprref14_PrintTag.mono _ _ _)
      | (with_reducible exact sprref14_Tags.mono _ _)
      | (with_reducible exact sprref_Texts.mono _ _ _)
      | (with_reducible exact LeO.refl _)
      | (with_reducible exact LeO.none _)
      | (with_reducible refine LeO.ite ?_ ?_)
      | (with_reducible refine LeO.bind ?_ (fun _ => ?_))
      | exact ih0 _ _ _ _ _ _ _
      | exact ih1 _ _ _ _ _ _ _ _ _ _ _ _ _ _ _ _ _
      | exact ih2 _ _ _ _ _ _ _ _ _ _ _ _ _ _ _ _ _
      | exact etag_List.mono _ _
      | exact etag_Parse.mono _ _
      | exact etag_Print.mono _ _ _
      | exact sprlaw16_first.mono _
      | exact sprlaw16_texts.mono _ _
      | exact sprref14_ParseTag.mono _ _
      | exact sprref14_PrintTag.mono _ _ _
      | exact sprref14_Tags.mono _ _
      | exact sprref_Texts.mono _ _ _
      | exact LeO.none _
      | refine LeO.ite ?_ ?_
      | refine LeO.bind ?_ (fun _ => ?_)
    · intro y0 y1 y2 y3 y4 y5 y6 y7 y8 y9 y10 y11 y12 y13 y14 y15 y16
      unfold sprlaw16_EtagReads.l0
      repeat' first
      | (with_reducible exact ih0 _ _ _ _ _ _ _)
      | (with_reducible exact ih1 _ _ _ _ _ _ _ _ _ _ _ _ _ _ _ _ _)
      | (with_reducible exact ih2 _ _ _ _ _ _ _ _ _ _ _ _ _ _ _ _ _)
      | (with_reducible exact etag_List.mono _ _)
      | (with_reducible exact etag_Parse.mono _ _)
      | (with_reducible exact etag_Print.mono _ _ _)
      | (with_reducible exact sprlaw16_first.mono _)
      | (with_reducible exact sprlaw16_texts.mono _ _)
      | (with_reducible exact sprref14_ParseTag.mono _ _)
      | (with_reducible exact sprref14_PrintTag.mono _ _ _)
      | (with_reducible exact sprref14_Tags.mono _ _)
      | (with_reducible exact sprref_Texts.mono _ _ _)
      | (with_reducible exact LeO.refl _)
      | (with_reducible exact LeO.none _)
      | (with_reducible refine LeO.ite ?_ ?_)
      | (with_reducible refine LeO.bind ?_ (fun _ => ?_))
      | exact ih0 _ _ _ _ _ _ _
      | exact ih1 _ _ _ _ _ _ _ _ _ _ _ _ _ _ _ _ _
      | exact ih2 _ _ _ _ _ _ _ _ _ _ _ _ _ _ _ _ _
      | exact etag_List.mono _ _
      | exact etag_Parse.mono _ _
      | exact etag_Print.mono _ _ _
      | exact sprlaw16_first.mono _
      | exact sprlaw16_texts.mono _ _
      | exact sprref14_ParseTag.mono _ _
      | exact sprref14_PrintTag.mono _ _ _
      | exact sprref14_Tags.mono _ _
      | exact sprref_Texts.mono _ _ _
      | exact LeO.none _
      | refine LeO.ite ?_ ?_
      | refine LeO.bind ?_ (fun _ => ?_)
theorem sprlaw16_EtagReads.mono : ∀ a0 a1 a2 a3 a4 a5 k, LeO (sprlaw16_EtagReads.f k a0 a1 a2 a3 a4 a5) (sprlaw16_EtagReads.f (k + 1) a0 a1 a2 a3 a4 a5) := by
  intro a0 a1 a2 a3 a4 a5 k
  obtain ⟨ih0, ih1, ih2⟩ := sprlaw16_EtagReads.mono_l k
  unfold sprlaw16_EtagReads.f
  repeat' first
      | (with_reducible exact ih0 _ _ _ _ _ _ _)
      | (with_reducible exact ih1 _ _ _ _ _ _ _ _ _ _ _ _ _ _ _ _ _)
      | (with_reducible exact ih2 _ _ _ _ _ _ _ _ _ _ _ _ _ _ _ _ _)
      | (with_reducible exact etag_List.mono _ _)
      | (with_reducible exact etag_Parse.mono _ _)
      | (with_reducible exact etag_Print.mono _ _ _)
      | (with_reducible exact sprlaw16_first.mono _)
      | (with_reducible exact sprlaw16_texts.mono _ _)
      | (with_reducible exact sprref14_ParseTag.mono _ _)
      | (with_reducible exact sprref14_PrintTag.mono _ _ _)
      | (with_reducible exact sprref14_Tags.mono _ _)
      | (with_reducible exact sprref_Texts.mono _ _ _)
      | (with_reducible exact LeO.refl _)
      | (with_reducible exact LeO.none _)
      | (with_reducible refine LeO.ite ?_ ?_)
      | (with_reducible refine LeO.bind ?_ (fun _ => ?_))
      | exact ih0 _ _ _ _ _ _ _
      | exact ih1 _ _ _ _ _ _ _ _ _ _ _ _ _ _ _ _ _
      | exact ih2 _ _ _ _ _ _ _ _ _ _ _ _ _ _ _ _ _
      | exact etag_List.mono _ _
      | exact etag_Parse.mono _ _
      | exact etag_Print.mono _ _ _
      | exact sprlaw16_first.mono _
      | exact sprlaw16_texts.mono _ _
      | exact sprref14_ParseTag.mono _ _
      | exact sprref14_PrintTag.mono _ _ _
      | exact sprref14_Tags.mono _ _
      | exact sprref_Texts.mono _ _ _
      | exact LeO.none _
      | refine LeO.ite ?_ ?_
      | refine LeO.bind ?_ (fun _ => ?_)
def sprlaw16_EtagReads.T17 : Bool × List (List Nat × List Nat) := (true, [([], []), ([], []), ([0, 1], [0, 1]), ([2], [2]), ([3], [3]), ([], []), ([], []), ([5, 6], [5, 6]), ([7], [7]), ([4, 8], [4, 8])])
def sprlaw16_EtagReads.B17 : List Nat := [0, 0, 3, 7, 15, 0, 0, 96, 224, 511]
theorem sprlaw16_EtagReads.tab17 : rtab .any (opsOf Tryd.f6 17) = sprlaw16_EtagReads.T17 := by kernel_rfl
theorem sprlaw16_EtagReads.bits17 : waitsOk sprlaw16_EtagReads.T17.2 sprlaw16_EtagReads.B17 = true := by kernel_rfl
def sprlaw16_EtagReads.T19 : Bool × List (List Nat × List Nat) := (true, [([], []), ([0, 0], [0]), ([1], [1]), ([2, 1, 1], [1, 2]), ([1], [1]), ([3, 4, 1], [1, 3, 4]), ([1, 5], [1, 5]), ([6, 3], [6]), ([7], [7]), ([7], [7]), ([8, 9, 7], [7, 8, 9]), ([7, 10], [7, 10]), ([11, 7], [11]), ([12], [12]), ([12], [12]), ([13, 14, 12], [12, 13, 14]), ([12, 15], [12, 15]), ([16, 12], [16]), ([17], [17]), ([17], [17]), ([18, 19, 17], [17, 18, 19]), ([17, 20], [17, 20]), ([21, 17], [21]), ([22], [22]), ([22], [22]), ([23, 24, 22, 22], [22, 23, 24]), ([22], [22]), ([26, 25, 22], [22, 26]), ([22], [22]), ([28, 27, 22], [22, 28]), ([27, 29, 29, 22], [22, 27, 29]), ([25, 30, 22], [22, 25, 30]), ([22, 31], [22, 31]), ([32, 30], [32]), ([33], [33]), ([33], [33]), ([34, 35, 33, 33], [33, 34, 35]), ([33], [33]), ([37, 36, 33], [33, 37]), ([33], [33]), ([39, 38, 33], [33, 39]), ([38, 40, 40, 33], [33, 38, 40]), ([36, 41, 33], [33, 36, 41]), ([33, 42], [33, 42]), ([43, 41, 0, 1, 2, 3, 4, 5, 6, 7, 8, 9, 10, 11, 12, 13, 14, 15, 16, 17, 18, 19, 20, 21, 22, 23, 24, 25, 26, 27, 28, 29, 30, 31, 32, 33, 34, 35, 36, 37, 38, 39, 40, 41, 42, 43], [43])])
def sprlaw16_EtagReads.B19 : List Nat := [0, 1, 3, 7, 3, 31, 63, 127, 255, 255, 1023, 2047, 4095, 8191, 8191, 32767, 65535, 131071, 262143, 262143, 1048575, 2097151, 4194303, 8388607, 8388607, 33554431, 8388607, 134217727, 8388607, 536870911, 1073741823, 2147483647, 4294967295, 8589934591, 17179869183, 17179869183, 68719476735, 17179869183, 274877906943, 17179869183, 1099511627775, 2199023255551, 4398046511103, 8796093022207, 17592186044415]
theorem sprlaw16_EtagReads.tab19 : rtab .any (opsOf Tryd.f6 19) = sprlaw16_EtagReads.T19 := by kernel_rfl
theorem sprlaw16_EtagReads.bits19 : waitsOk sprlaw16_EtagReads.T19.2 sprlaw16_EtagReads.B19 = true := by kernel_rfl
set_option maxHeartbeats 8000000 in
set_option maxRecDepth 100000 in
theorem sprlaw16_EtagReads.calls (k : Nat) (a0 : ByteArray) (a1_0 : Bool) (a1_1 : ByteArray) (a2_0 : Bool) (a2_1 : ByteArray) (A3 : Option Addr) (c3 : Nat) (l3 : List ByteArray) (r : Bool) (w : World) (hr3 : Kd.C Kd.string w A3 l3.length l3) (hc3 : l3.length ≤ c3) (h : sprlaw16_EtagReads.f k a0 a1_0 a1_1 a2_0 a2_1 l3 = some r) (hT : Aside0 (r = true)) :
    Calls Tryd.prog 6 #[.string a0, .agg #[.bool a1_0, .string a1_1], .agg #[.bool a2_0, .string a2_1], .slice A3 l3.length c3] w fun e w' => e = .returned (.bool r) ∧ Below w.heap.size w w' := by
  have hu23 := Tryd.underlying23
  have hu38 := Tryd.underlying38
  have HR3 := Aside0.mk hr3
  have HC3 := Aside0.mk hc3
  clear hr3 hc3
  have HB := Aside0.mk (Below.refl w.heap.size w)
  have H : ((sprlaw16_first.f k).bind fun t334 => (if t334 = true then (if (a0.size : Int) > 20000 then (sprlaw16_EtagReads.j0 k a0 l3 true a1_0 a1_1 a2_0 a2_1) else (if (a1_1.size : Int) > 20000 then (sprlaw16_EtagReads.j0 k a0 l3 true a1_0 a1_1 a2_0 a2_1) else (if (a2_1.size : Int) > 20000 then (sprlaw16_EtagReads.j0 k a0 l3 true a1_0 a1_1 a2_0 a2_1) else ((sprlaw16_texts.f k l3).bind fun t335 => (sprlaw16_EtagReads.j0 k a0 l3 (!t335) a1_0 a1_1 a2_0 a2_1))))) else (some false))) = some r := h
  clear h
  replace H := Option.bind_eq_some_iff.mp H
  obtain ⟨t334, A50, H⟩ := H
  replace H : (if t334 = true then (if (a0.size : Int) > 20000 then (sprlaw16_EtagReads.j0 k a0 l3 true a1_0 a1_1 a2_0 a2_1) else (if (a1_1.size : Int) > 20000 then (sprlaw16_EtagReads.j0 k a0 l3 true a1_0 a1_1 a2_0 a2_1) else (if (a2_1.size : Int) > 20000 then (sprlaw16_EtagReads.j0 k a0 l3 true a1_0 a1_1 a2_0 a2_1) else ((sprlaw16_texts.f k l3).bind fun t335 => (sprlaw16_EtagReads.j0 k a0 l3 (!t335) a1_0 a1_1 a2_0 a2_1))))) else (some false)) = some r := H
  have A5 := Aside0.mk A50
  clear A50
  by_cases c6 : t334 = true
  · subst c6
    have H1 : (if (a0.size : Int) > 20000 then (sprlaw16_EtagReads.j0 k a0 l3 true a1_0 a1_1 a2_0 a2_1) else (if (a1_1.size : Int) > 20000 then (sprlaw16_EtagReads.j0 k a0 l3 true a1_0 a1_1 a2_0 a2_1) else (if (a2_1.size : Int) > 20000 then (sprlaw16_EtagReads.j0 k a0 l3 true a1_0 a1_1 a2_0 a2_1) else ((sprlaw16_texts.f k l3).bind fun t335 => (sprlaw16_EtagReads.j0 k a0 l3 (!t335) a1_0 a1_1 a2_0 a2_1))))) = some r := by rw [if_pos rfl] at H; exact H
    clear H
    have H := H1
    clear H1
    have HC7 := Aside0.mk H
    clear H
    go_enter Tryd.func6, Tryd.ntmps6
    go_upto_region 3 with (first | ((with_reducible refine gate_dst (N := 5) rfl ?_); (try (refine gate_guard (by rfl) ?_; dsimp only)); refine box_event ?hg (N := 5) ?hd (cs := #[.bool a1_0, .string a1_1]) (t := 23) ?hr ?_; (case hd => rfl); (case hg => rfl); (case hr => first | (go_simp; done) | (go_simp; rfl)); intro gb332 hg w8 hbox hb; have n0_ := Aside0.mk (below_step (by repeat (first | (with_reducible first | exact HB.out | apply below_alloc | apply pw_below_drewN | apply below_drew1) | exact HB.out)) hb); have n1_ := Aside0.mk (hbox); have n2_ := Aside0.mk ((by rw [hg]; exact (below_size (by repeat (first | (with_reducible first | exact HB.out | apply below_alloc | apply pw_below_drewN | apply below_drew1) | exact HB.out))) : w.heap.size ≤ gb332)); have n3_ := Aside0.mk ((by rw [hg]; exact (below_size (by repeat (first | (with_reducible first | exact HB.out | apply below_alloc | apply pw_below_drewN | apply below_drew1) | exact HB.out))) : w.heap.size ≤ gb332)); clear HB; have HB := n0_; have BK332 := n1_; have GW332 := n2_; have GE332 := n3_; clear n0_ n1_ n2_ n3_; clear hb hbox hg) | ((with_reducible refine gate_dst (N := 6) rfl ?_); (try (refine gate_guard (by rfl) ?_; dsimp only)); refine box_event ?hg (N := 6) ?hd (cs := #[.bool a2_0, .string a2_1]) (t := 23) ?hr ?_; (case hd => rfl); (case hg => rfl); (case hr => first | (go_simp; done) | (go_simp; rfl)); intro gb333 hg w9 hbox hb; have n0_ := Aside0.mk (blk_below (g := gb332) (o := .cells #[.bool a1_0, .string a1_1] 23 (0, 0)) (by (with_reducible repeat (first | refine blk_drewN ?_ _ | refine blk_drew ?_ | refine blk_alloc ?_ _)); exact BK332.out) hb); have n1_ := Aside0.mk (below_step (by repeat (first | (with_reducible first | exact HB.out | apply below_alloc | apply pw_below_drewN | apply below_drew1 | refine below_set ?_ GE332.out) | exact HB.out)) hb); have n2_ := Aside0.mk (hbox); have n3_ := Aside0.mk ((by rw [hg]; exact (below_size (by repeat (first | (with_reducible first | exact HB.out | apply below_alloc | apply pw_below_drewN | apply below_drew1 | refine below_set ?_ GE332.out) | exact HB.out))) : w.heap.size ≤ gb333)); have n4_ := Aside0.mk ((by rw [hg]; exact (below_size (by repeat (first | (with_reducible first | exact HB.out | apply below_alloc | apply pw_below_drewN | apply below_drew1 | refine below_set ?_ GE332.out) | exact HB.out))) : w.heap.size ≤ gb333)); have n5_ := Aside0.mk ((by rw [hg]; exact Nat.ne_of_lt (blk_lt (g := gb332) (o := .cells #[.bool a1_0, .string a1_1] 23 (0, 0)) (by (with_reducible repeat (first | refine blk_drewN ?_ _ | refine blk_drew ?_ | refine blk_alloc ?_ _)); exact BK332.out)) : gb332 ≠ gb333)); have n6_ := Aside0.mk ((by rw [hg]; exact Nat.ne_of_gt (blk_lt (g := gb332) (o := .cells #[.bool a1_0, .string a1_1] 23 (0, 0)) (by (with_reducible repeat (first | refine blk_drewN ?_ _ | refine blk_drew ?_ | refine blk_alloc ?_ _)); exact BK332.out)) : gb333 ≠ gb332)); clear BK332; clear HB; have BK332 := n0_; have HB := n1_; have BK333 := n2_; have GW333 := n3_; have GE333 := n4_; have NB332_333 := n5_; have NB333_332 := n6_; clear n0_ n1_ n2_ n3_ n4_ n5_ n6_; clear hb hbox hg) | ((with_reducible refine gate_callee (f := 7) rfl ?_); refine goesL_ (some 25) rfl rfl Tryd.func7 (by kernel_rfl) rfl #[] rfl (by (try simp only [List.map_toArray, List.map_cons, List.map_nil]); first | done | rfl | (simp only [List.length_drop, List.length_take]; rfl)) ?_; (with_reducible refine (sprlaw16_first.calls k  true _ A5.out).mono ?_); rintro e w10 ⟨rfl, hb⟩; refine ⟨_, rfl, ?_⟩; have n0_ := Aside0.mk (blk_below (g := gb332) (o := .cells #[.bool a1_0, .string a1_1] 23 (0, 0)) (by (with_reducible repeat (first | refine blk_drewN ?_ _ | refine blk_drew ?_ | refine blk_alloc ?_ _)); exact BK332.out) hb); have n1_ := Aside0.mk (blk_below (g := gb333) (o := .cells #[.bool a2_0, .string a2_1] 23 (0, 0)) (by (with_reducible repeat (first | refine blk_drewN ?_ _ | refine blk_drew ?_ | refine blk_alloc ?_ _)); exact BK333.out) hb); have n2_ := Aside0.mk (below_step (by repeat (first | (with_reducible first | exact HB.out | apply below_alloc | apply pw_below_drewN | apply below_drew1 | refine below_set ?_ GE332.out | refine below_set ?_ GE333.out) | exact HB.out)) hb); clear BK332; clear BK333; clear HB; have BK332 := n0_; have BK333 := n1_; have HB := n2_; clear n0_ n1_ n2_; (try clear hb); (try clear hb2); (try clear hk); (try clear hi)))
    (try simp only [Act.put, List.setIfInBounds_toArray, List.set_cons_zero, List.set_cons_succ])
    go_cut [46] (fun v46 wc => ∃ (kq : Nat) (x46_6 : Bool), v46 = .bool x46_6 ∧ Aside0 (sprlaw16_EtagReads.j0 kq a0 l3 x46_6 a1_0 a1_1 a2_0 a2_1 = some r) ∧ Aside0 (kq ≤ k) ∧ Aside0 (wc.heap[gb332]? = some (.cells #[.bool a1_0, .string a1_1] 23 (0, 0))) ∧ Aside0 (wc.heap[gb333]? = some (.cells #[.bool a2_0, .string a2_1] 23 (0, 0))) ∧ Aside0 (Below w.heap.size w wc))
    case first =>
      have H := HC7.out
      clear HC7
      by_cases c11 : (a0.size : Int) > 20000
      · rw [if_pos c11] at H
        have c11b0 : decide (20000 < (a0.size : Int)) = true := decide_eq_true c11
        have c11b1 : decide (20000 < a0.size) = true := decide_eq_true (by omega)
        clear c11
        (first | rw [c11b0] | (simp only [i64_w, i32_w]; rw [c11b0]) | skip)
        have H' := Aside0.mk H
        clear H
        go_wp2
        go_meet
        case rel => exact ⟨_, (true), (by first | rfl | (simp; done) | (simp [*]; done)), H', ⟨by first | omega | exact Nat.le_refl _⟩, ⟨by (with_reducible repeat (first | refine blk_drewN ?_ _ | refine blk_drew ?_ | refine blk_alloc ?_ _)); exact BK332.out⟩, ⟨by (with_reducible repeat (first | refine blk_drewN ?_ _ | refine blk_drew ?_ | refine blk_alloc ?_ _)); exact BK333.out⟩, ⟨by repeat (first | (with_reducible first | exact HB.out | apply below_alloc | apply pw_below_drewN | apply below_drew1 | refine below_set ?_ GE332.out | refine below_set ?_ GE333.out) | exact HB.out)⟩⟩
      · rw [if_neg c11] at H
        have c11b0 : decide (20000 < (a0.size : Int)) = false := decide_eq_false c11
        have c11b1 : decide (20000 < a0.size) = false := decide_eq_false (by omega)
        clear c11
        (first | rw [c11b0] | (simp only [i64_w, i32_w]; rw [c11b0]) | skip)
        by_cases c12 : (a1_1.size : Int) > 20000
        · rw [if_pos c12] at H
          have c12b0 : decide (20000 < (a1_1.size : Int)) = true := decide_eq_true c12
          have c12b1 : decide (20000 < a1_1.size) = true := decide_eq_true (by omega)
          clear c12
          have H' := Aside0.mk H
          clear H
          have hnb13 := NB332_333.out
          have hnc13 := NB333_332.out
          have hcz14_0 : w10.cell? ⟨gb332, 0, none⟩ = some (.bool a1_0) := (blk_cell BK332.out 0).trans rfl
          have hcz14_1 : w10.cell? ⟨gb332, 1, none⟩ = some (.string a1_1) := (blk_cell BK332.out 1).trans rfl
          have hfz14_0 := blk_frozen BK332.out 0
          have hfz14_1 := blk_frozen BK332.out 1
          go_wp2
          go_meet
          case rel => exact ⟨_, (true), (by first | rfl | (simp; done) | (simp [*]; done)), H', ⟨by first | omega | exact Nat.le_refl _⟩, ⟨by (with_reducible repeat (first | refine blk_drewN ?_ _ | refine blk_drew ?_ | refine blk_alloc ?_ _)); exact BK332.out⟩, ⟨by (with_reducible repeat (first | refine blk_drewN ?_ _ | refine blk_drew ?_ | refine blk_alloc ?_ _)); exact BK333.out⟩, ⟨by repeat (first | (with_reducible first | exact HB.out | apply below_alloc | apply pw_below_drewN | apply below_drew1 | refine below_set ?_ GE332.out | refine below_set ?_ GE333.out) | exact HB.out)⟩⟩
        · rw [if_neg c12] at H
          have c12b0 : decide (20000 < (a1_1.size : Int)) = false := decide_eq_false c12
          have c12b1 : decide (20000 < a1_1.size) = false := decide_eq_false (by omega)
          clear c12
          by_cases c15 : (a2_1.size : Int) > 20000
          · rw [if_pos c15] at H
            have c15b0 : decide (20000 < (a2_1.size : Int)) = true := decide_eq_true c15
            have c15b1 : decide (20000 < a2_1.size) = true := decide_eq_true (by omega)
            clear c15
            have H' := Aside0.mk H
            clear H
            have hnb16 := NB332_333.out
            have hnc16 := NB333_332.out
            have hcz17_0 : w10.cell? ⟨gb332, 0, none⟩ = some (.bool a1_0) := (blk_cell BK332.out 0).trans rfl
            have hcz17_1 : w10.cell? ⟨gb332, 1, none⟩ = some (.string a1_1) := (blk_cell BK332.out 1).trans rfl
            have hfz17_0 := blk_frozen BK332.out 0
            have hfz17_1 := blk_frozen BK332.out 1
            have hcz18_0 : w10.cell? ⟨gb333, 0, none⟩ = some (.bool a2_0) := (blk_cell BK333.out 0).trans rfl
            have hcz18_1 : w10.cell? ⟨gb333, 1, none⟩ = some (.string a2_1) := (blk_cell BK333.out 1).trans rfl
            have hfz18_0 := blk_frozen BK333.out 0
            have hfz18_1 := blk_frozen BK333.out 1
            go_wp2
            go_meet
            case rel => exact ⟨_, (true), (by first | rfl | (simp; done) | (simp [*]; done)), H', ⟨by first | omega | exact Nat.le_refl _⟩, ⟨by (with_reducible repeat (first | refine blk_drewN ?_ _ | refine blk_drew ?_ | refine blk_alloc ?_ _)); exact BK332.out⟩, ⟨by (with_reducible repeat (first | refine blk_drewN ?_ _ | refine blk_drew ?_ | refine blk_alloc ?_ _)); exact BK333.out⟩, ⟨by repeat (first | (with_reducible first | exact HB.out | apply below_alloc | apply pw_below_drewN | apply below_drew1 | refine below_set ?_ GE332.out | refine below_set ?_ GE333.out) | exact HB.out)⟩⟩
          · rw [if_neg c15] at H
            have c15b0 : decide (20000 < (a2_1.size : Int)) = false := decide_eq_false c15
            have c15b1 : decide (20000 < a2_1.size) = false := decide_eq_false (by omega)
            clear c15
            replace H := Option.bind_eq_some_iff.mp H
            obtain ⟨t335, A190, H⟩ := H
            replace H : (sprlaw16_EtagReads.j0 k a0 l3 (!t335) a1_0 a1_1 a2_0 a2_1) = some r := H
            have A19 := Aside0.mk A190
            clear A190
            have H' := Aside0.mk H
            clear H
            have hnb20 := NB332_333.out
            have hnc20 := NB333_332.out
            have hcz21_0 : w10.cell? ⟨gb332, 0, none⟩ = some (.bool a1_0) := (blk_cell BK332.out 0).trans rfl
            have hcz21_1 : w10.cell? ⟨gb332, 1, none⟩ = some (.string a1_1) := (blk_cell BK332.out 1).trans rfl
            have hfz21_0 := blk_frozen BK332.out 0
            have hfz21_1 := blk_frozen BK332.out 1
            have hcz22_0 : w10.cell? ⟨gb333, 0, none⟩ = some (.bool a2_0) := (blk_cell BK333.out 0).trans rfl
            have hcz22_1 : w10.cell? ⟨gb333, 1, none⟩ = some (.string a2_1) := (blk_cell BK333.out 1).trans rfl
            have hfz22_0 := blk_frozen BK333.out 0
            have hfz22_1 := blk_frozen BK333.out 1
            go_wp2_with (first | (go_at_call 13; (with_reducible refine (sprlaw16_texts.calls k _ _ l3 t335 _ ?side1 ?side2 A19.out).mono ?_); (case side1 => repeat (first | exact (Kd.C_below HR3.out HB.out) | (with_reducible refine Kd.C_alloc ?_ _) | (with_reducible refine Kd.C_drewN ?_ _) | (with_reducible refine Kd.C_drew ?_))); (case side2 => exact HC3.out); rintro e w23 ⟨rfl, hb⟩; have n0_ := Aside0.mk (blk_below (g := gb332) (o := .cells #[.bool a1_0, .string a1_1] 23 (0, 0)) (by (with_reducible repeat (first | refine blk_drewN ?_ _ | refine blk_drew ?_ | refine blk_alloc ?_ _)); exact BK332.out) hb); have n1_ := Aside0.mk (blk_below (g := gb333) (o := .cells #[.bool a2_0, .string a2_1] 23 (0, 0)) (by (with_reducible repeat (first | refine blk_drewN ?_ _ | refine blk_drew ?_ | refine blk_alloc ?_ _)); exact BK333.out) hb); have n2_ := Aside0.mk (below_step (by repeat (first | (with_reducible first | exact HB.out | apply below_alloc | apply pw_below_drewN | apply below_drew1 | refine below_set ?_ GE332.out | refine below_set ?_ GE333.out) | exact HB.out)) hb); clear BK332; clear BK333; clear HB; have BK332 := n0_; have BK333 := n1_; have HB := n2_; clear n0_ n1_ n2_; (try clear hb); (try clear hb2); (try clear hk); (try clear hi)))
            go_meet
            case rel => exact ⟨_, (!t335), (by first | rfl | (simp; done) | (simp [*]; done)), H', ⟨by first | omega | exact Nat.le_refl _⟩, ⟨by (with_reducible repeat (first | refine blk_drewN ?_ _ | refine blk_drew ?_ | refine blk_alloc ?_ _)); exact BK332.out⟩, ⟨by (with_reducible repeat (first | refine blk_drewN ?_ _ | refine blk_drew ?_ | refine blk_alloc ?_ _)); exact BK333.out⟩, ⟨by repeat (first | (with_reducible first | exact HB.out | apply below_alloc | apply pw_below_drewN | apply below_drew1 | refine below_set ?_ GE332.out | refine below_set ?_ GE333.out) | exact HB.out)⟩⟩
    case rest =>
      clear HC7
      try clear c1
      try clear c2
      try clear p2
      try clear c3
      try clear c6
      try clear c7
      try clear c11
      try clear c11b0
      try clear c11b1
      try clear c12
      try clear c12b0
      try clear c12b1
      try clear c13
      try clear c15
      try clear c15b0
      try clear c15b1
      try clear c16
      try clear c20
      try clear hcz14_0
      try clear hcz14_1
      try clear hcz17_0
      try clear hcz17_1
      try clear hcz18_0
      try clear hcz18_1
      try clear hcz21_0
      try clear hcz21_1
      try clear hcz22_0
      try clear hcz22_1
      try clear hfz14_0
      try clear hfz14_1
      try clear hfz17_0
      try clear hfz17_1
      try clear hfz18_0
      try clear hfz18_1
      try clear hfz21_0
      try clear hfz21_1
      try clear hfz22_0
      try clear hfz22_1
      obtain ⟨kq, x46_6, rfl, HA, HJ6, BK332, BK333, HB⟩ := hcut
      cases kq with
      | zero => exact absurd HA.out (by simp [sprlaw16_EtagReads.j0])
      | succ kj6 =>
        have H := HA.out
        clear HA
        simp only [sprlaw16_EtagReads.j0] at H
        by_cases c24 : x46_6 = true
        · subst c24
          have H1 : ((sprlaw16_first.f kj6).bind fun t336 => (some t336)) = some r := by rw [if_pos rfl] at H; exact H
          clear H
          have H := H1
          clear H1
          replace H := Option.bind_eq_some_iff.mp H
          obtain ⟨t336, A250, H⟩ := H
          replace H : (some t336) = some r := H
          have A25 := Aside0.mk A250
          clear A250
          obtain rfl := Option.some.inj H
          go_wp2_with (first | ((with_reducible refine gate_callee (f := 7) rfl ?_); refine goesL_ (some 47) rfl rfl Tryd.func7 (by kernel_rfl) rfl #[] rfl (by (try simp only [List.map_toArray, List.map_cons, List.map_nil]); first | done | rfl | (simp only [List.length_drop, List.length_take]; rfl)) ?_; (with_reducible refine (sprlaw16_first.calls kj6  t336 _ A25.out).mono ?_); rintro e w26 ⟨rfl, hb⟩; refine ⟨_, rfl, ?_⟩; have n0_ := Aside0.mk (blk_below (g := gb332) (o := .cells #[.bool a1_0, .string a1_1] 23 (0, 0)) (by (with_reducible repeat (first | refine blk_drewN ?_ _ | refine blk_drew ?_ | refine blk_alloc ?_ _)); exact BK332.out) hb); have n1_ := Aside0.mk (blk_below (g := gb333) (o := .cells #[.bool a2_0, .string a2_1] 23 (0, 0)) (by (with_reducible repeat (first | refine blk_drewN ?_ _ | refine blk_drew ?_ | refine blk_alloc ?_ _)); exact BK333.out) hb); have n2_ := Aside0.mk (below_step (by repeat (first | (with_reducible first | exact HB.out | apply below_alloc | apply pw_below_drewN | apply below_drew1 | refine below_set ?_ GE332.out | refine below_set ?_ GE333.out) | exact HB.out)) hb); clear BK332; clear BK333; clear HB; have BK332 := n0_; have BK333 := n1_; have HB := n2_; clear n0_ n1_ n2_; (try clear hb); (try clear hb2); (try clear hk); (try clear hi)))
          go_ret
          exact ⟨by first | rfl | (simp [errW_none, errW_some] <;> rfl) | (simp [*, errW_none, errW_some] <;> rfl), by repeat (first | (with_reducible first | exact HB.out | apply below_alloc | apply pw_below_drewN | apply below_drew1 | refine below_set ?_ GE332.out | refine below_set ?_ GE333.out) | exact HB.out)⟩
        · replace c24 := Bool.eq_false_iff.mpr c24
          subst c24
          have H1 : ((sprref_CopyTexts.f l3).bind fun t337 => ((etag_Parse.f kj6 a0).bind fun bt340 => ((sprref14_ParseTag.f kj6 a0).bind fun bt344 => ((etag_Print.f kj6 a1_0 a1_1).bind fun bt348 => ((sprlaw16_Plain.f a1_0 a1_1).bind fun bt350 => ((sprref14_PrintTag.f kj6 bt350.1 bt350.2).bind fun bt352 => ((etag_List.f kj6 t337).bind fun bt354 => ((sprref14_Tags.f kj6 l3).bind fun bt359 => (if (bt354.1.length : Int) = (bt359.1.length : Int) then (if (bt354.2.1 != bt359.2.1) = true then (sprlaw16_EtagReads.j1 kj6 bt340.2.2 bt344.2.2 bt348.1 bt348.2 bt352.1 bt352.2 bt354.1 bt359.1 true a1_0 a1_1 a2_0 a2_1 bt340.1 bt340.2.1 bt344.1 bt344.2.1) else (if (bt354.2.2 != bt359.2.2) = true then (sprlaw16_EtagReads.j1 kj6 bt340.2.2 bt344.2.2 bt348.1 bt348.2 bt352.1 bt352.2 bt354.1 bt359.1 true a1_0 a1_1 a2_0 a2_1 bt340.1 bt340.2.1 bt344.1 bt344.2.1) else ((sprref_Texts.f kj6 t337 l3).bind fun t364 => (sprlaw16_EtagReads.j1 kj6 bt340.2.2 bt344.2.2 bt348.1 bt348.2 bt352.1 bt352.2 bt354.1 bt359.1 (!t364) a1_0 a1_1 a2_0 a2_1 bt340.1 bt340.2.1 bt344.1 bt344.2.1)))) else (sprlaw16_EtagReads.j1 kj6 bt340.2.2 bt344.2.2 bt348.1 bt348.2 bt352.1 bt352.2 bt354.1 bt359.1 true a1_0 a1_1 a2_0 a2_1 bt340.1 bt340.2.1 bt344.1 bt344.2.1)))))))))) = some r := by rw [if_neg (show ¬ (false = true) by decide)] at H; exact H
          clear H
          have H := H1
          clear H1
          replace H := Option.bind_eq_some_iff.mp H
          obtain ⟨t337, A270, H⟩ := H
          replace H : ((etag_Parse.f kj6 a0).bind fun bt340 => ((sprref14_ParseTag.f kj6 a0).bind fun bt344 => ((etag_Print.f kj6 a1_0 a1_1).bind fun bt348 => ((sprlaw16_Plain.f a1_0 a1_1).bind fun bt350 => ((sprref14_PrintTag.f kj6 bt350.1 bt350.2).bind fun bt352 => ((etag_List.f kj6 t337).bind fun bt354 => ((sprref14_Tags.f kj6 l3).bind fun bt359 => (if (bt354.1.length : Int) = (bt359.1.length : Int) then (if (bt354.2.1 != bt359.2.1) = true then (sprlaw16_EtagReads.j1 kj6 bt340.2.2 bt344.2.2 bt348.1 bt348.2 bt352.1 bt352.2 bt354.1 bt359.1 true a1_0 a1_1 a2_0 a2_1 bt340.1 bt340.2.1 bt344.1 bt344.2.1) else (if (bt354.2.2 != bt359.2.2) = true then (sprlaw16_EtagReads.j1 kj6 bt340.2.2 bt344.2.2 bt348.1 bt348.2 bt352.1 bt352.2 bt354.1 bt359.1 true a1_0 a1_1 a2_0 a2_1 bt340.1 bt340.2.1 bt344.1 bt344.2.1) else ((sprref_Texts.f kj6 t337 l3).bind fun t364 => (sprlaw16_EtagReads.j1 kj6 bt340.2.2 bt344.2.2 bt348.1 bt348.2 bt352.1 bt352.2 bt354.1 bt359.1 (!t364) a1_0 a1_1 a2_0 a2_1 bt340.1 bt340.2.1 bt344.1 bt344.2.1)))) else (sprlaw16_EtagReads.j1 kj6 bt340.2.2 bt344.2.2 bt348.1 bt348.2 bt352.1 bt352.2 bt354.1 bt359.1 true a1_0 a1_1 a2_0 a2_1 bt340.1 bt340.2.1 bt344.1 bt344.2.1))))))))) = some r := H
          have A27 := Aside0.mk A270
          clear A270
          replace H := Option.bind_eq_some_iff.mp H
          obtain ⟨⟨t340, t341, t342⟩, A280, H⟩ := H
          replace H : ((sprref14_ParseTag.f kj6 a0).bind fun bt344 => ((etag_Print.f kj6 a1_0 a1_1).bind fun bt348 => ((sprlaw16_Plain.f a1_0 a1_1).bind fun bt350 => ((sprref14_PrintTag.f kj6 bt350.1 bt350.2).bind fun bt352 => ((etag_List.f kj6 t337).bind fun bt354 => ((sprref14_Tags.f kj6 l3).bind fun bt359 => (if (bt354.1.length : Int) = (bt359.1.length : Int) then (if (bt354.2.1 != bt359.2.1) = true then (sprlaw16_EtagReads.j1 kj6 t342 bt344.2.2 bt348.1 bt348.2 bt352.1 bt352.2 bt354.1 bt359.1 true a1_0 a1_1 a2_0 a2_1 t340 t341 bt344.1 bt344.2.1) else (if (bt354.2.2 != bt359.2.2) = true then (sprlaw16_EtagReads.j1 kj6 t342 bt344.2.2 bt348.1 bt348.2 bt352.1 bt352.2 bt354.1 bt359.1 true a1_0 a1_1 a2_0 a2_1 t340 t341 bt344.1 bt344.2.1) else ((sprref_Texts.f kj6 t337 l3).bind fun t364 => (sprlaw16_EtagReads.j1 kj6 t342 bt344.2.2 bt348.1 bt348.2 bt352.1 bt352.2 bt354.1 bt359.1 (!t364) a1_0 a1_1 a2_0 a2_1 t340 t341 bt344.1 bt344.2.1)))) else (sprlaw16_EtagReads.j1 kj6 t342 bt344.2.2 bt348.1 bt348.2 bt352.1 bt352.2 bt354.1 bt359.1 true a1_0 a1_1 a2_0 a2_1 t340 t341 bt344.1 bt344.2.1)))))))) = some r := H
          have A28 := Aside0.mk A280
          clear A280
          replace H := Option.bind_eq_some_iff.mp H
          obtain ⟨⟨t344, t345, t346⟩, A290, H⟩ := H
          replace H : ((etag_Print.f kj6 a1_0 a1_1).bind fun bt348 => ((sprlaw16_Plain.f a1_0 a1_1).bind fun bt350 => ((sprref14_PrintTag.f kj6 bt350.1 bt350.2).bind fun bt352 => ((etag_List.f kj6 t337).bind fun bt354 => ((sprref14_Tags.f kj6 l3).bind fun bt359 => (if (bt354.1.length : Int) = (bt359.1.length : Int) then (if (bt354.2.1 != bt359.2.1) = true then (sprlaw16_EtagReads.j1 kj6 t342 t346 bt348.1 bt348.2 bt352.1 bt352.2 bt354.1 bt359.1 true a1_0 a1_1 a2_0 a2_1 t340 t341 t344 t345) else (if (bt354.2.2 != bt359.2.2) = true then (sprlaw16_EtagReads.j1 kj6 t342 t346 bt348.1 bt348.2 bt352.1 bt352.2 bt354.1 bt359.1 true a1_0 a1_1 a2_0 a2_1 t340 t341 t344 t345) else ((sprref_Texts.f kj6 t337 l3).bind fun t364 => (sprlaw16_EtagReads.j1 kj6 t342 t346 bt348.1 bt348.2 bt352.1 bt352.2 bt354.1 bt359.1 (!t364) a1_0 a1_1 a2_0 a2_1 t340 t341 t344 t345)))) else (sprlaw16_EtagReads.j1 kj6 t342 t346 bt348.1 bt348.2 bt352.1 bt352.2 bt354.1 bt359.1 true a1_0 a1_1 a2_0 a2_1 t340 t341 t344 t345))))))) = some r := H
          have A29 := Aside0.mk A290
          clear A290
          replace H := Option.bind_eq_some_iff.mp H
          obtain ⟨⟨t348, t349⟩, A300, H⟩ := H
          replace H : ((sprlaw16_Plain.f a1_0 a1_1).bind fun bt350 => ((sprref14_PrintTag.f kj6 bt350.1 bt350.2).bind fun bt352 => ((etag_List.f kj6 t337).bind fun bt354 => ((sprref14_Tags.f kj6 l3).bind fun bt359 => (if (bt354.1.length : Int) = (bt359.1.length : Int) then (if (bt354.2.1 != bt359.2.1) = true then (sprlaw16_EtagReads.j1 kj6 t342 t346 t348 t349 bt352.1 bt352.2 bt354.1 bt359.1 true a1_0 a1_1 a2_0 a2_1 t340 t341 t344 t345) else (if (bt354.2.2 != bt359.2.2) = true then (sprlaw16_EtagReads.j1 kj6 t342 t346 t348 t349 bt352.1 bt352.2 bt354.1 bt359.1 true a1_0 a1_1 a2_0 a2_1 t340 t341 t344 t345) else ((sprref_Texts.f kj6 t337 l3).bind fun t364 => (sprlaw16_EtagReads.j1 kj6 t342 t346 t348 t349 bt352.1 bt352.2 bt354.1 bt359.1 (!t364) a1_0 a1_1 a2_0 a2_1 t340 t341 t344 t345)))) else (sprlaw16_EtagReads.j1 kj6 t342 t346 t348 t349 bt352.1 bt352.2 bt354.1 bt359.1 true a1_0 a1_1 a2_0 a2_1 t340 t341 t344 t345)))))) = some r := H
          have A30 := Aside0.mk A300
          clear A300
          replace H := Option.bind_eq_some_iff.mp H
          obtain ⟨⟨t350, t351⟩, A310, H⟩ := H
          replace H : ((sprref14_PrintTag.f kj6 t350 t351).bind fun bt352 => ((etag_List.f kj6 t337).bind fun bt354 => ((sprref14_Tags.f kj6 l3).bind fun bt359 => (if (bt354.1.length : Int) = (bt359.1.length : Int) then (if (bt354.2.1 != bt359.2.1) = true then (sprlaw16_EtagReads.j1 kj6 t342 t346 t348 t349 bt352.1 bt352.2 bt354.1 bt359.1 true a1_0 a1_1 a2_0 a2_1 t340 t341 t344 t345) else (if (bt354.2.2 != bt359.2.2) = true then (sprlaw16_EtagReads.j1 kj6 t342 t346 t348 t349 bt352.1 bt352.2 bt354.1 bt359.1 true a1_0 a1_1 a2_0 a2_1 t340 t341 t344 t345) else ((sprref_Texts.f kj6 t337 l3).bind fun t364 => (sprlaw16_EtagReads.j1 kj6 t342 t346 t348 t349 bt352.1 bt352.2 bt354.1 bt359.1 (!t364) a1_0 a1_1 a2_0 a2_1 t340 t341 t344 t345)))) else (sprlaw16_EtagReads.j1 kj6 t342 t346 t348 t349 bt352.1 bt352.2 bt354.1 bt359.1 true a1_0 a1_1 a2_0 a2_1 t340 t341 t344 t345))))) = some r := H
          have A31 := Aside0.mk A310
          clear A310
          replace H := Option.bind_eq_some_iff.mp H
          obtain ⟨⟨t352, t353⟩, A320, H⟩ := H
          replace H : ((etag_List.f kj6 t337).bind fun bt354 => ((sprref14_Tags.f kj6 l3).bind fun bt359 => (if (bt354.1.length : Int) = (bt359.1.length : Int) then (if (bt354.2.1 != bt359.2.1) = true then (sprlaw16_EtagReads.j1 kj6 t342 t346 t348 t349 t352 t353 bt354.1 bt359.1 true a1_0 a1_1 a2_0 a2_1 t340 t341 t344 t345) else (if (bt354.2.2 != bt359.2.2) = true then (sprlaw16_EtagReads.j1 kj6 t342 t346 t348 t349 t352 t353 bt354.1 bt359.1 true a1_0 a1_1 a2_0 a2_1 t340 t341 t344 t345) else ((sprref_Texts.f kj6 t337 l3).bind fun t364 => (sprlaw16_EtagReads.j1 kj6 t342 t346 t348 t349 t352 t353 bt354.1 bt359.1 (!t364) a1_0 a1_1 a2_0 a2_1 t340 t341 t344 t345)))) else (sprlaw16_EtagReads.j1 kj6 t342 t346 t348 t349 t352 t353 bt354.1 bt359.1 true a1_0 a1_1 a2_0 a2_1 t340 t341 t344 t345)))) = some r := H
          have A32 := Aside0.mk A320
          clear A320
          replace H := Option.bind_eq_some_iff.mp H
          obtain ⟨⟨t354, t355, t356⟩, A330, H⟩ := H
          replace H : ((sprref14_Tags.f kj6 l3).bind fun bt359 => (if (t354.length : Int) = (bt359.1.length : Int) then (if (t355 != bt359.2.1) = true then (sprlaw16_EtagReads.j1 kj6 t342 t346 t348 t349 t352 t353 t354 bt359.1 true a1_0 a1_1 a2_0 a2_1 t340 t341 t344 t345) else (if (t356 != bt359.2.2) = true then (sprlaw16_EtagReads.j1 kj6 t342 t346 t348 t349 t352 t353 t354 bt359.1 true a1_0 a1_1 a2_0 a2_1 t340 t341 t344 t345) else ((sprref_Texts.f kj6 t337 l3).bind fun t364 => (sprlaw16_EtagReads.j1 kj6 t342 t346 t348 t349 t352 t353 t354 bt359.1 (!t364) a1_0 a1_1 a2_0 a2_1 t340 t341 t344 t345)))) else (sprlaw16_EtagReads.j1 kj6 t342 t346 t348 t349 t352 t353 t354 bt359.1 true a1_0 a1_1 a2_0 a2_1 t340 t341 t344 t345))) = some r := H
          have A33 := Aside0.mk A330
          clear A330
          replace H := Option.bind_eq_some_iff.mp H
          obtain ⟨⟨t359, t360, t361⟩, A340, H⟩ := H
          replace H : (if (t354.length : Int) = (t359.length : Int) then (if (t355 != t360) = true then (sprlaw16_EtagReads.j1 kj6 t342 t346 t348 t349 t352 t353 t354 t359 true a1_0 a1_1 a2_0 a2_1 t340 t341 t344 t345) else (if (t356 != t361) = true then (sprlaw16_EtagReads.j1 kj6 t342 t346 t348 t349 t352 t353 t354 t359 true a1_0 a1_1 a2_0 a2_1 t340 t341 t344 t345) else ((sprref_Texts.f kj6 t337 l3).bind fun t364 => (sprlaw16_EtagReads.j1 kj6 t342 t346 t348 t349 t352 t353 t354 t359 (!t364) a1_0 a1_1 a2_0 a2_1 t340 t341 t344 t345)))) else (sprlaw16_EtagReads.j1 kj6 t342 t346 t348 t349 t352 t353 t354 t359 true a1_0 a1_1 a2_0 a2_1 t340 t341 t344 t345)) = some r := H
          have A34 := Aside0.mk A340
          clear A340
          have HC35 := Aside0.mk H
          clear H
          go_upto_region 12 with (first | ((with_reducible refine gate_callee (f := 14) rfl ?_); refine goesL_ (some 49) rfl rfl Tryd.func14 (by kernel_rfl) rfl #[.slice A3 l3.length c3] rfl (by (try simp only [List.map_toArray, List.map_cons, List.map_nil]); first | done | rfl | (simp only [List.length_drop, List.length_take]; rfl)) ?_; (with_reducible refine (sprref_CopyTexts.calls _ _ l3 t337 _ ?side1 ?side2 A27.out).mono ?_); (case side1 => repeat (first | exact (Kd.C_below HR3.out HB.out) | (with_reducible refine Kd.C_alloc ?_ _) | (with_reducible refine Kd.C_drewN ?_ _) | (with_reducible refine Kd.C_drew ?_))); (case side2 => exact HC3.out); rintro e w36 ⟨v338, rfl, ho0, hb⟩; refine ⟨_, rfl, ?_⟩; have n0_ := Aside0.mk (Kd.R_lower ho0 (below_size (by repeat (first | (with_reducible first | exact HB.out | apply below_alloc | apply pw_below_drewN | apply below_drew1 | refine below_set ?_ GE332.out | refine below_set ?_ GE333.out) | exact HB.out)))); have n1_ := Aside0.mk (blk_below (g := gb332) (o := .cells #[.bool a1_0, .string a1_1] 23 (0, 0)) (by (with_reducible repeat (first | refine blk_drewN ?_ _ | refine blk_drew ?_ | refine blk_alloc ?_ _)); exact BK332.out) hb); have n2_ := Aside0.mk (blk_below (g := gb333) (o := .cells #[.bool a2_0, .string a2_1] 23 (0, 0)) (by (with_reducible repeat (first | refine blk_drewN ?_ _ | refine blk_drew ?_ | refine blk_alloc ?_ _)); exact BK333.out) hb); have n3_ := Aside0.mk (below_step (by repeat (first | (with_reducible first | exact HB.out | apply below_alloc | apply pw_below_drewN | apply below_drew1 | refine below_set ?_ GE332.out | refine below_set ?_ GE333.out) | exact HB.out)) hb); clear BK332; clear BK333; clear HB; have HO339 := n0_; have BK332 := n1_; have BK333 := n2_; have HB := n3_; clear n0_ n1_ n2_ n3_; (try clear hb); (try clear hb2); (try clear hk); (try clear hi); (try clear ho0)) | ((with_reducible refine gate_callee (f := 11) rfl ?_); refine goesL_ (some 52) rfl rfl Tryd.func11 (by kernel_rfl) rfl #[.string a0] rfl (by (try simp only [List.map_toArray, List.map_cons, List.map_nil]); first | done | rfl | (simp only [List.length_drop, List.length_take]; rfl)) ?_; (with_reducible refine (etag_Parse.calls kj6 a0 t340 t341 t342 _ A28.out).mono ?_); rintro e w37 ⟨rfl, hb⟩; refine ⟨_, rfl, ?_⟩; have n0_ := Aside0.mk (Kd.R_below (by (with_reducible repeat (first | apply Kd.R_alloc | apply Kd.R_drewN | apply Kd.R_drew)); exact HO339.out) hb); have n1_ := Aside0.mk (blk_below (g := gb332) (o := .cells #[.bool a1_0, .string a1_1] 23 (0, 0)) (by (with_reducible repeat (first | refine blk_drewN ?_ _ | refine blk_drew ?_ | refine blk_alloc ?_ _)); exact BK332.out) hb); have n2_ := Aside0.mk (blk_below (g := gb333) (o := .cells #[.bool a2_0, .string a2_1] 23 (0, 0)) (by (with_reducible repeat (first | refine blk_drewN ?_ _ | refine blk_drew ?_ | refine blk_alloc ?_ _)); exact BK333.out) hb); have n3_ := Aside0.mk (below_step (by repeat (first | (with_reducible first | exact HB.out | apply below_alloc | apply pw_below_drewN | apply below_drew1 | refine below_set ?_ GE332.out | refine below_set ?_ GE333.out) | exact HB.out)) hb); clear HO339; clear BK332; clear BK333; clear HB; have HO339 := n0_; have BK332 := n1_; have BK333 := n2_; have HB := n3_; clear n0_ n1_ n2_ n3_; (try clear hb); (try clear hb2); (try clear hk); (try clear hi)) | ((with_reducible refine gate_dst (N := 10) rfl ?_); (try (refine gate_guard (by rfl) ?_; dsimp only)); refine box_event ?hg (N := 10) ?hd (cs := #[.bool false, .string (⟨#[]⟩ : ByteArray)]) (t := 23) ?hr ?_; (case hd => rfl); (case hg => rfl); (case hr => first | (go_simp; done) | (go_simp; rfl)); intro gb343 hg w38 hbox hb; have n0_ := Aside0.mk (Kd.R_below (by (with_reducible repeat (first | apply Kd.R_alloc | apply Kd.R_drewN | apply Kd.R_drew)); exact HO339.out) hb); have n1_ := Aside0.mk (blk_below (g := gb332) (o := .cells #[.bool a1_0, .string a1_1] 23 (0, 0)) (by (with_reducible repeat (first | refine blk_drewN ?_ _ | refine blk_drew ?_ | refine blk_alloc ?_ _)); exact BK332.out) hb); have n2_ := Aside0.mk (blk_below (g := gb333) (o := .cells #[.bool a2_0, .string a2_1] 23 (0, 0)) (by (with_reducible repeat (first | refine blk_drewN ?_ _ | refine blk_drew ?_ | refine blk_alloc ?_ _)); exact BK333.out) hb); have n3_ := Aside0.mk (below_step (by repeat (first | (with_reducible first | exact HB.out | apply below_alloc | apply pw_below_drewN | apply below_drew1 | refine below_set ?_ GE332.out | refine below_set ?_ GE333.out) | exact HB.out)) hb); have n4_ := Aside0.mk (hbox); have n5_ := Aside0.mk ((by rw [hg]; exact (below_size (by repeat (first | (with_reducible first | exact HB.out | apply below_alloc | apply pw_below_drewN | apply below_drew1 | refine below_set ?_ GE332.out | refine below_set ?_ GE333.out) | exact HB.out))) : w.heap.size ≤ gb343)); have n6_ := Aside0.mk ((by rw [hg]; exact (below_size (by repeat (first | (with_reducible first | exact HB.out | apply below_alloc | apply pw_below_drewN | apply below_drew1 | refine below_set ?_ GE332.out | refine below_set ?_ GE333.out) | exact HB.out))) : w.heap.size ≤ gb343)); have n7_ := Aside0.mk ((by rw [hg]; exact Nat.ne_of_lt (blk_lt (g := gb332) (o := .cells #[.bool a1_0, .string a1_1] 23 (0, 0)) (by (with_reducible repeat (first | refine blk_drewN ?_ _ | refine blk_drew ?_ | refine blk_alloc ?_ _)); exact BK332.out)) : gb332 ≠ gb343)); have n8_ := Aside0.mk ((by rw [hg]; exact Nat.ne_of_gt (blk_lt (g := gb332) (o := .cells #[.bool a1_0, .string a1_1] 23 (0, 0)) (by (with_reducible repeat (first | refine blk_drewN ?_ _ | refine blk_drew ?_ | refine blk_alloc ?_ _)); exact BK332.out)) : gb343 ≠ gb332)); have n9_ := Aside0.mk ((by rw [hg]; exact Nat.ne_of_lt (blk_lt (g := gb333) (o := .cells #[.bool a2_0, .string a2_1] 23 (0, 0)) (by (with_reducible repeat (first | refine blk_drewN ?_ _ | refine blk_drew ?_ | refine blk_alloc ?_ _)); exact BK333.out)) : gb333 ≠ gb343)); have n10_ := Aside0.mk ((by rw [hg]; exact Nat.ne_of_gt (blk_lt (g := gb333) (o := .cells #[.bool a2_0, .string a2_1] 23 (0, 0)) (by (with_reducible repeat (first | refine blk_drewN ?_ _ | refine blk_drew ?_ | refine blk_alloc ?_ _)); exact BK333.out)) : gb343 ≠ gb333)); clear HO339; clear BK332; clear BK333; clear HB; have HO339 := n0_; have BK332 := n1_; have BK333 := n2_; have HB := n3_; have BK343 := n4_; have GW343 := n5_; have GE343 := n6_; have NB332_343 := n7_; have NB343_332 := n8_; have NB333_343 := n9_; have NB343_333 := n10_; clear n0_ n1_ n2_ n3_ n4_ n5_ n6_ n7_ n8_ n9_ n10_; clear hb hbox hg; have hnb39 := NB343_332.out; have hnc39 := NB332_343.out; have hnb40 := NB343_333.out; have hnc40 := NB333_343.out; have hcz41_0 : w38.cell? ⟨gb343, 0, none⟩ = some (.bool false) := (blk_cell BK343.out 0).trans rfl; have hcz41_1 : w38.cell? ⟨gb343, 1, none⟩ = some (.string (⟨#[]⟩ : ByteArray)) := (blk_cell BK343.out 1).trans rfl; have hfz41_0 := blk_frozen BK343.out 0; have hfz41_1 := blk_frozen BK343.out 1) | ((with_reducible refine gate_callee (f := 15) rfl ?_); refine goesL_ (some 57) rfl rfl Tryd.func15 (by kernel_rfl) rfl #[.string a0] rfl (by (try simp only [List.map_toArray, List.map_cons, List.map_nil]); first | done | rfl | (simp only [List.length_drop, List.length_take]; rfl)) ?_; (with_reducible refine (sprref14_ParseTag.calls kj6 a0 t344 t345 t346 _ A29.out).mono ?_); rintro e w42 ⟨rfl, hb⟩; refine ⟨_, rfl, ?_⟩; have n0_ := Aside0.mk (Kd.R_below (by (with_reducible repeat (first | apply Kd.R_alloc | apply Kd.R_drewN | apply Kd.R_drew)); exact (Kd.R_mono (Kd.R_far (p := ⟨gb343, 1, none⟩) (Kd.R_far (p := ⟨gb343, 0, none⟩) (Kd.R_types HO339.out BK343.out (by decide)) (fun _ hk => hk.2) (.bool t340)) (fun _ hk => hk.2) (.string t341)) (fun _ h_ => h_.1))) hb); have n1_ := Aside0.mk (blk_below (g := gb332) (o := .cells #[.bool a1_0, .string a1_1] 23 (0, 0)) (by (with_reducible repeat (first | refine blk_drewN ?_ _ | refine blk_drew ?_ | refine blk_alloc ?_ _)); refine blk_far ?_ NB332_343.out _; (with_reducible repeat (first | refine blk_drewN ?_ _ | refine blk_drew ?_ | refine blk_alloc ?_ _)); refine blk_far ?_ NB332_343.out _; (with_reducible repeat (first | refine blk_drewN ?_ _ | refine blk_drew ?_ | refine blk_alloc ?_ _)); exact BK332.out) hb); have n2_ := Aside0.mk (blk_below (g := gb333) (o := .cells #[.bool a2_0, .string a2_1] 23 (0, 0)) (by (with_reducible repeat (first | refine blk_drewN ?_ _ | refine blk_drew ?_ | refine blk_alloc ?_ _)); refine blk_far ?_ NB333_343.out _; (with_reducible repeat (first | refine blk_drewN ?_ _ | refine blk_drew ?_ | refine blk_alloc ?_ _)); refine blk_far ?_ NB333_343.out _; (with_reducible repeat (first | refine blk_drewN ?_ _ | refine blk_drew ?_ | refine blk_alloc ?_ _)); exact BK333.out) hb); have n3_ := Aside0.mk (blk_below (g := gb343) (o := .cells #[.bool t340, .string t341] 23 (0, 0)) (by (with_reducible repeat (first | refine blk_drewN ?_ _ | refine blk_drew ?_ | refine blk_alloc ?_ _)); refine blk_put (cs := #[.bool t340, .string (⟨#[]⟩ : ByteArray)]) ?_ 1 _ rfl; (with_reducible repeat (first | refine blk_drewN ?_ _ | refine blk_drew ?_ | refine blk_alloc ?_ _)); refine blk_put (cs := #[.bool false, .string (⟨#[]⟩ : ByteArray)]) ?_ 0 _ rfl; (with_reducible repeat (first | refine blk_drewN ?_ _ | refine blk_drew ?_ | refine blk_alloc ?_ _)); exact BK343.out) hb); have n4_ := Aside0.mk (below_step (by repeat (first | (with_reducible first | exact HB.out | apply below_alloc | apply pw_below_drewN | apply below_drew1 | refine below_set ?_ GE332.out | refine below_set ?_ GE333.out | refine below_set ?_ GE343.out) | exact HB.out)) hb); clear HO339; clear BK332; clear BK333; clear BK343; clear HB; have HO339 := n0_; have BK332 := n1_; have BK333 := n2_; have BK343 := n3_; have HB := n4_; clear n0_ n1_ n2_ n3_ n4_; (try clear hb); (try clear hb2); (try clear hk); (try clear hi)) | ((with_reducible refine gate_dst (N := 12) rfl ?_); (try (refine gate_guard (by rfl) ?_; dsimp only)); refine box_event ?hg (N := 12) ?hd (cs := #[.bool false, .string (⟨#[]⟩ : ByteArray)]) (t := 38) ?hr ?_; (case hd => rfl); (case hg => rfl); (case hr => first | (go_simp; done) | (go_simp; rfl)); intro gb347 hg w43 hbox hb; have n0_ := Aside0.mk (Kd.R_below (by (with_reducible repeat (first | apply Kd.R_alloc | apply Kd.R_drewN | apply Kd.R_drew)); exact HO339.out) hb); have n1_ := Aside0.mk (blk_below (g := gb332) (o := .cells #[.bool a1_0, .string a1_1] 23 (0, 0)) (by (with_reducible repeat (first | refine blk_drewN ?_ _ | refine blk_drew ?_ | refine blk_alloc ?_ _)); exact BK332.out) hb); have n2_ := Aside0.mk (blk_below (g := gb333) (o := .cells #[.bool a2_0, .string a2_1] 23 (0, 0)) (by (with_reducible repeat (first | refine blk_drewN ?_ _ | refine blk_drew ?_ | refine blk_alloc ?_ _)); exact BK333.out) hb); have n3_ := Aside0.mk (blk_below (g := gb343) (o := .cells #[.bool t340, .string t341] 23 (0, 0)) (by (with_reducible repeat (first | refine blk_drewN ?_ _ | refine blk_drew ?_ | refine blk_alloc ?_ _)); exact BK343.out) hb); have n4_ := Aside0.mk (below_step (by repeat (first | (with_reducible first | exact HB.out | apply below_alloc | apply pw_below_drewN | apply below_drew1 | refine below_set ?_ GE332.out | refine below_set ?_ GE333.out | refine below_set ?_ GE343.out) | exact HB.out)) hb); have n5_ := Aside0.mk (hbox); have n6_ := Aside0.mk ((by rw [hg]; exact (below_size (by repeat (first | (with_reducible first | exact HB.out | apply below_alloc | apply pw_below_drewN | apply below_drew1 | refine below_set ?_ GE332.out | refine below_set ?_ GE333.out | refine below_set ?_ GE343.out) | exact HB.out))) : w.heap.size ≤ gb347)); have n7_ := Aside0.mk ((by rw [hg]; exact (below_size (by repeat (first | (with_reducible first | exact HB.out | apply below_alloc | apply pw_below_drewN | apply below_drew1 | refine below_set ?_ GE332.out | refine below_set ?_ GE333.out | refine below_set ?_ GE343.out) | exact HB.out))) : w.heap.size ≤ gb347)); have n8_ := Aside0.mk ((by rw [hg]; exact Nat.ne_of_lt (blk_lt (g := gb332) (o := .cells #[.bool a1_0, .string a1_1] 23 (0, 0)) (by (with_reducible repeat (first | refine blk_drewN ?_ _ | refine blk_drew ?_ | refine blk_alloc ?_ _)); exact BK332.out)) : gb332 ≠ gb347)); have n9_ := Aside0.mk ((by rw [hg]; exact Nat.ne_of_gt (blk_lt (g := gb332) (o := .cells #[.bool a1_0, .string a1_1] 23 (0, 0)) (by (with_reducible repeat (first | refine blk_drewN ?_ _ | refine blk_drew ?_ | refine blk_alloc ?_ _)); exact BK332.out)) : gb347 ≠ gb332)); have n10_ := Aside0.mk ((by rw [hg]; exact Nat.ne_of_lt (blk_lt (g := gb333) (o := .cells #[.bool a2_0, .string a2_1] 23 (0, 0)) (by (with_reducible repeat (first | refine blk_drewN ?_ _ | refine blk_drew ?_ | refine blk_alloc ?_ _)); exact BK333.out)) : gb333 ≠ gb347)); have n11_ := Aside0.mk ((by rw [hg]; exact Nat.ne_of_gt (blk_lt (g := gb333) (o := .cells #[.bool a2_0, .string a2_1] 23 (0, 0)) (by (with_reducible repeat (first | refine blk_drewN ?_ _ | refine blk_drew ?_ | refine blk_alloc ?_ _)); exact BK333.out)) : gb347 ≠ gb333)); have n12_ := Aside0.mk ((by rw [hg]; exact Nat.ne_of_lt (blk_lt (g := gb343) (o := .cells #[.bool t340, .string t341] 23 (0, 0)) (by (with_reducible repeat (first | refine blk_drewN ?_ _ | refine blk_drew ?_ | refine blk_alloc ?_ _)); exact BK343.out)) : gb343 ≠ gb347)); have n13_ := Aside0.mk ((by rw [hg]; exact Nat.ne_of_gt (blk_lt (g := gb343) (o := .cells #[.bool t340, .string t341] 23 (0, 0)) (by (with_reducible repeat (first | refine blk_drewN ?_ _ | refine blk_drew ?_ | refine blk_alloc ?_ _)); exact BK343.out)) : gb347 ≠ gb343)); clear HO339; clear BK332; clear BK333; clear BK343; clear HB; have HO339 := n0_; have BK332 := n1_; have BK333 := n2_; have BK343 := n3_; have HB := n4_; have BK347 := n5_; have GW347 := n6_; have GE347 := n7_; have NB332_347 := n8_; have NB347_332 := n9_; have NB333_347 := n10_; have NB347_333 := n11_; have NB343_347 := n12_; have NB347_343 := n13_; clear n0_ n1_ n2_ n3_ n4_ n5_ n6_ n7_ n8_ n9_ n10_ n11_ n12_ n13_; clear hb hbox hg; have hnb44 := NB347_332.out; have hnc44 := NB332_347.out; have hnb45 := NB347_333.out; have hnc45 := NB333_347.out; have hnb46 := NB347_343.out; have hnc46 := NB343_347.out; have hcz47_0 : w43.cell? ⟨gb347, 0, none⟩ = some (.bool false) := (blk_cell BK347.out 0).trans rfl; have hcz47_1 : w43.cell? ⟨gb347, 1, none⟩ = some (.string (⟨#[]⟩ : ByteArray)) := (blk_cell BK347.out 1).trans rfl; have hfz47_0 := blk_frozen BK347.out 0; have hfz47_1 := blk_frozen BK347.out 1; have hnb48 := NB332_333.out; have hnc48 := NB333_332.out; have hcz49_0 : w43.cell? ⟨gb332, 0, none⟩ = some (.bool a1_0) := (blk_cell BK332.out 0).trans rfl; have hcz49_1 : w43.cell? ⟨gb332, 1, none⟩ = some (.string a1_1) := (blk_cell BK332.out 1).trans rfl; have hfz49_0 := blk_frozen BK332.out 0; have hfz49_1 := blk_frozen BK332.out 1) | ((with_reducible refine gate_callee (f := 10) rfl ?_); refine goesL_ (some 62) rfl rfl Tryd.func10 (by kernel_rfl) rfl #[.agg #[.bool a1_0, .string a1_1]] rfl (by (try simp only [List.map_toArray, List.map_cons, List.map_nil]); first | done | rfl | (simp only [List.length_drop, List.length_take]; rfl)) ?_; (with_reducible refine (etag_Print.calls kj6 a1_0 a1_1 t348 t349 _ A30.out).mono ?_); rintro e w50 ⟨rfl, hb⟩; refine ⟨_, rfl, ?_⟩; have n0_ := Aside0.mk (Kd.R_below (by (with_reducible repeat (first | apply Kd.R_alloc | apply Kd.R_drewN | apply Kd.R_drew)); exact (Kd.R_mono (Kd.R_far (p := ⟨gb347, 1, none⟩) (Kd.R_far (p := ⟨gb347, 0, none⟩) (Kd.R_types HO339.out BK347.out (by decide)) (fun _ hk => hk.2) (.bool t344)) (fun _ hk => hk.2) (.string t345)) (fun _ h_ => h_.1))) hb); have n1_ := Aside0.mk (blk_below (g := gb332) (o := .cells #[.bool a1_0, .string a1_1] 23 (0, 0)) (by (with_reducible repeat (first | refine blk_drewN ?_ _ | refine blk_drew ?_ | refine blk_alloc ?_ _)); refine blk_far ?_ NB332_347.out _; (with_reducible repeat (first | refine blk_drewN ?_ _ | refine blk_drew ?_ | refine blk_alloc ?_ _)); refine blk_far ?_ NB332_347.out _; (with_reducible repeat (first | refine blk_drewN ?_ _ | refine blk_drew ?_ | refine blk_alloc ?_ _)); exact BK332.out) hb); have n2_ := Aside0.mk (blk_below (g := gb333) (o := .cells #[.bool a2_0, .string a2_1] 23 (0, 0)) (by (with_reducible repeat (first | refine blk_drewN ?_ _ | refine blk_drew ?_ | refine blk_alloc ?_ _)); refine blk_far ?_ NB333_347.out _; (with_reducible repeat (first | refine blk_drewN ?_ _ | refine blk_drew ?_ | refine blk_alloc ?_ _)); refine blk_far ?_ NB333_347.out _; (with_reducible repeat (first | refine blk_drewN ?_ _ | refine blk_drew ?_ | refine blk_alloc ?_ _)); exact BK333.out) hb); have n3_ := Aside0.mk (blk_below (g := gb343) (o := .cells #[.bool t340, .string t341] 23 (0, 0)) (by (with_reducible repeat (first | refine blk_drewN ?_ _ | refine blk_drew ?_ | refine blk_alloc ?_ _)); refine blk_far ?_ NB343_347.out _; (with_reducible repeat (first | refine blk_drewN ?_ _ | refine blk_drew ?_ | refine blk_alloc ?_ _)); refine blk_far ?_ NB343_347.out _; (with_reducible repeat (first | refine blk_drewN ?_ _ | refine blk_drew ?_ | refine blk_alloc ?_ _)); exact BK343.out) hb); have n4_ := Aside0.mk (blk_below (g := gb347) (o := .cells #[.bool t344, .string t345] 38 (0, 0)) (by (with_reducible repeat (first | refine blk_drewN ?_ _ | refine blk_drew ?_ | refine blk_alloc ?_ _)); refine blk_put (cs := #[.bool t344, .string (⟨#[]⟩ : ByteArray)]) ?_ 1 _ rfl; (with_reducible repeat (first | refine blk_drewN ?_ _ | refine blk_drew ?_ | refine blk_alloc ?_ _)); refine blk_put (cs := #[.bool false, .string (⟨#[]⟩ : ByteArray)]) ?_ 0 _ rfl; (with_reducible repeat (first | refine blk_drewN ?_ _ | refine blk_drew ?_ | refine blk_alloc ?_ _)); exact BK347.out) hb); have n5_ := Aside0.mk (below_step (by repeat (first | (with_reducible first | exact HB.out | apply below_alloc | apply pw_below_drewN | apply below_drew1 | refine below_set ?_ GE332.out | refine below_set ?_ GE333.out | refine below_set ?_ GE343.out | refine below_set ?_ GE347.out) | exact HB.out)) hb); clear HO339; clear BK332; clear BK333; clear BK343; clear BK347; clear HB; have HO339 := n0_; have BK332 := n1_; have BK333 := n2_; have BK343 := n3_; have BK347 := n4_; have HB := n5_; clear n0_ n1_ n2_ n3_ n4_ n5_; (try clear hb); (try clear hb2); (try clear hk); (try clear hi); have hcz51_0 : w50.cell? ⟨gb332, 0, none⟩ = some (.bool a1_0) := (blk_cell BK332.out 0).trans rfl; have hcz51_1 : w50.cell? ⟨gb332, 1, none⟩ = some (.string a1_1) := (blk_cell BK332.out 1).trans rfl; have hfz51_0 := blk_frozen BK332.out 0; have hfz51_1 := blk_frozen BK332.out 1) | ((with_reducible refine gate_callee (f := 17) rfl ?_); refine goesL_ (some 67) rfl rfl Tryd.func17 (by kernel_rfl) rfl #[.agg #[.bool a1_0, .string a1_1]] rfl (by (try simp only [List.map_toArray, List.map_cons, List.map_nil]); first | done | rfl | (simp only [List.length_drop, List.length_take]; rfl)) ?_; (with_reducible refine (sprlaw16_Plain.calls a1_0 a1_1 t350 t351 _ A31.out).mono ?_); rintro e w52 ⟨rfl, hb⟩; refine ⟨_, rfl, ?_⟩; have n0_ := Aside0.mk (Kd.R_below (by (with_reducible repeat (first | apply Kd.R_alloc | apply Kd.R_drewN | apply Kd.R_drew)); exact HO339.out) hb); have n1_ := Aside0.mk (blk_below (g := gb332) (o := .cells #[.bool a1_0, .string a1_1] 23 (0, 0)) (by (with_reducible repeat (first | refine blk_drewN ?_ _ | refine blk_drew ?_ | refine blk_alloc ?_ _)); exact BK332.out) hb); have n2_ := Aside0.mk (blk_below (g := gb333) (o := .cells #[.bool a2_0, .string a2_1] 23 (0, 0)) (by (with_reducible repeat (first | refine blk_drewN ?_ _ | refine blk_drew ?_ | refine blk_alloc ?_ _)); exact BK333.out) hb); have n3_ := Aside0.mk (blk_below (g := gb343) (o := .cells #[.bool t340, .string t341] 23 (0, 0)) (by (with_reducible repeat (first | refine blk_drewN ?_ _ | refine blk_drew ?_ | refine blk_alloc ?_ _)); exact BK343.out) hb); have n4_ := Aside0.mk (blk_below (g := gb347) (o := .cells #[.bool t344, .string t345] 38 (0, 0)) (by (with_reducible repeat (first | refine blk_drewN ?_ _ | refine blk_drew ?_ | refine blk_alloc ?_ _)); exact BK347.out) hb); have n5_ := Aside0.mk (below_step (by repeat (first | (with_reducible first | exact HB.out | apply below_alloc | apply pw_below_drewN | apply below_drew1 | refine below_set ?_ GE332.out | refine below_set ?_ GE333.out | refine below_set ?_ GE343.out | refine below_set ?_ GE347.out) | exact HB.out)) hb); clear HO339; clear BK332; clear BK333; clear BK343; clear BK347; clear HB; have HO339 := n0_; have BK332 := n1_; have BK333 := n2_; have BK343 := n3_; have BK347 := n4_; have HB := n5_; clear n0_ n1_ n2_ n3_ n4_ n5_; (try clear hb); (try clear hb2); (try clear hk); (try clear hi)) | ((with_reducible refine gate_callee (f := 16) rfl ?_); refine goesL_ (some 68) rfl rfl Tryd.func16 (by kernel_rfl) rfl #[.agg #[.bool t350, .string t351]] rfl (by (try simp only [List.map_toArray, List.map_cons, List.map_nil]); first | done | rfl | (simp only [List.length_drop, List.length_take]; rfl)) ?_; (with_reducible refine (sprref14_PrintTag.calls kj6 t350 t351 t352 t353 _ A32.out).mono ?_); rintro e w53 ⟨rfl, hb⟩; refine ⟨_, rfl, ?_⟩; have n0_ := Aside0.mk (Kd.R_below (by (with_reducible repeat (first | apply Kd.R_alloc | apply Kd.R_drewN | apply Kd.R_drew)); exact HO339.out) hb); have n1_ := Aside0.mk (blk_below (g := gb332) (o := .cells #[.bool a1_0, .string a1_1] 23 (0, 0)) (by (with_reducible repeat (first | refine blk_drewN ?_ _ | refine blk_drew ?_ | refine blk_alloc ?_ _)); exact BK332.out) hb); have n2_ := Aside0.mk (blk_below (g := gb333) (o := .cells #[.bool a2_0, .string a2_1] 23 (0, 0)) (by (with_reducible repeat (first | refine blk_drewN ?_ _ | refine blk_drew ?_ | refine blk_alloc ?_ _)); exact BK333.out) hb); have n3_ := Aside0.mk (blk_below (g := gb343) (o := .cells #[.bool t340, .string t341] 23 (0, 0)) (by (with_reducible repeat (first | refine blk_drewN ?_ _ | refine blk_drew ?_ | refine blk_alloc ?_ _)); exact BK343.out) hb); have n4_ := Aside0.mk (blk_below (g := gb347) (o := .cells #[.bool t344, .string t345] 38 (0, 0)) (by (with_reducible repeat (first | refine blk_drewN ?_ _ | refine blk_drew ?_ | refine blk_alloc ?_ _)); exact BK347.out) hb); have n5_ := Aside0.mk (below_step (by repeat (first | (with_reducible first | exact HB.out | apply below_alloc | apply pw_below_drewN | apply below_drew1 | refine below_set ?_ GE332.out | refine below_set ?_ GE333.out | refine below_set ?_ GE343.out | refine below_set ?_ GE347.out) | exact HB.out)) hb); clear HO339; clear BK332; clear BK333; clear BK343; clear BK347; clear HB; have HO339 := n0_; have BK332 := n1_; have BK333 := n2_; have BK343 := n3_; have BK347 := n4_; have HB := n5_; clear n0_ n1_ n2_ n3_ n4_ n5_; (try clear hb); (try clear hb2); (try clear hk); (try clear hi); obtain ⟨Ao54, co54, eo54⟩ := Kd.R_slice HO339.out; subst eo54) | ((with_reducible refine gate_callee (f := 12) rfl ?_); refine goesL_ (some 73) rfl rfl Tryd.func12 (by kernel_rfl) rfl #[.slice Ao54 t337.length co54] rfl (by (try simp only [List.map_toArray, List.map_cons, List.map_nil]); first | done | rfl | (simp only [List.length_drop, List.length_take]; rfl)) ?_; (with_reducible refine (etag_List.calls kj6 _ _ t337 t354 t355 t356 _ ?side1 ?side2 A33.out).mono ?_); (case side1 => repeat (first | exact (Kd.R_reads' HO339.out).2.2 | (with_reducible refine Kd.C_alloc ?_ _) | (with_reducible refine Kd.C_drewN ?_ _) | (with_reducible refine Kd.C_drew ?_))); (case side2 => exact (Kd.R_reads' HO339.out).2.1); rintro e w55 ⟨v357, rfl, ho0, hb⟩; refine ⟨_, rfl, ?_⟩; have n0_ := Aside0.mk (Kd.R_below (by (with_reducible repeat (first | apply Kd.R_alloc | apply Kd.R_drewN | apply Kd.R_drew)); exact HO339.out) hb); have n1_ := Aside0.mk (Kd.R_lower (Kd.R_newB (Kd.R_newB (Kd.R_newB ho0 (g := gb332) (o := .cells #[.bool a1_0, .string a1_1] 23 (0, 0)) (by (with_reducible repeat (first | refine blk_drewN ?_ _ | refine blk_drew ?_ | refine blk_alloc ?_ _)); exact BK332.out)) (g := gb333) (o := .cells #[.bool a2_0, .string a2_1] 23 (0, 0)) (by (with_reducible repeat (first | refine blk_drewN ?_ _ | refine blk_drew ?_ | refine blk_alloc ?_ _)); exact BK333.out)) (g := gb343) (o := .cells #[.bool t340, .string t341] 23 (0, 0)) (by (with_reducible repeat (first | refine blk_drewN ?_ _ | refine blk_drew ?_ | refine blk_alloc ?_ _)); exact BK343.out)) (below_size (by repeat (first | (with_reducible first | exact HB.out | apply below_alloc | apply pw_below_drewN | apply below_drew1 | refine below_set ?_ GE332.out | refine below_set ?_ GE333.out | refine below_set ?_ GE343.out | refine below_set ?_ GE347.out) | exact HB.out)))); have n2_ := Aside0.mk (blk_below (g := gb332) (o := .cells #[.bool a1_0, .string a1_1] 23 (0, 0)) (by (with_reducible repeat (first | refine blk_drewN ?_ _ | refine blk_drew ?_ | refine blk_alloc ?_ _)); exact BK332.out) hb); have n3_ := Aside0.mk (blk_below (g := gb333) (o := .cells #[.bool a2_0, .string a2_1] 23 (0, 0)) (by (with_reducible repeat (first | refine blk_drewN ?_ _ | refine blk_drew ?_ | refine blk_alloc ?_ _)); exact BK333.out) hb); have n4_ := Aside0.mk (blk_below (g := gb343) (o := .cells #[.bool t340, .string t341] 23 (0, 0)) (by (with_reducible repeat (first | refine blk_drewN ?_ _ | refine blk_drew ?_ | refine blk_alloc ?_ _)); exact BK343.out) hb); have n5_ := Aside0.mk (blk_below (g := gb347) (o := .cells #[.bool t344, .string t345] 38 (0, 0)) (by (with_reducible repeat (first | refine blk_drewN ?_ _ | refine blk_drew ?_ | refine blk_alloc ?_ _)); exact BK347.out) hb); have n6_ := Aside0.mk (below_step (by repeat (first | (with_reducible first | exact HB.out | apply below_alloc | apply pw_below_drewN | apply below_drew1 | refine below_set ?_ GE332.out | refine below_set ?_ GE333.out | refine below_set ?_ GE343.out | refine below_set ?_ GE347.out) | exact HB.out)) hb); clear HO339; clear BK332; clear BK333; clear BK343; clear BK347; clear HB; have HO339 := n0_; have HO358 := n1_; have BK332 := n2_; have BK333 := n3_; have BK343 := n4_; have BK347 := n5_; have HB := n6_; clear n0_ n1_ n2_ n3_ n4_ n5_ n6_; (try clear hb); (try clear hb2); (try clear hk); (try clear hi); (try clear ho0)) | ((with_reducible refine gate_callee (f := 18) rfl ?_); refine goesL_ (some 79) rfl rfl Tryd.func18 (by kernel_rfl) rfl #[.slice A3 l3.length c3] rfl (by (try simp only [List.map_toArray, List.map_cons, List.map_nil]); first | done | rfl | (simp only [List.length_drop, List.length_take]; rfl)) ?_; (with_reducible refine (sprref14_Tags.calls kj6 _ _ l3 t359 t360 t361 _ ?side1 ?side2 A34.out).mono ?_); (case side1 => repeat (first | exact (Kd.C_below HR3.out HB.out) | (with_reducible refine Kd.C_alloc ?_ _) | (with_reducible refine Kd.C_drewN ?_ _) | (with_reducible refine Kd.C_drew ?_))); (case side2 => exact HC3.out); rintro e w56 ⟨v362, rfl, ho0, hb⟩; refine ⟨_, rfl, ?_⟩; have n0_ := Aside0.mk (Kd.R_below (by (with_reducible repeat (first | apply Kd.R_alloc | apply Kd.R_drewN | apply Kd.R_drew)); exact HO339.out) hb); have n1_ := Aside0.mk (Kd.R_below (by (with_reducible repeat (first | apply Kd.R_alloc | apply Kd.R_drewN | apply Kd.R_drew)); exact HO358.out) hb); have n2_ := Aside0.mk (Kd.R_lower (Kd.R_newB ho0 (g := gb347) (o := .cells #[.bool t344, .string t345] 38 (0, 0)) (by (with_reducible repeat (first | refine blk_drewN ?_ _ | refine blk_drew ?_ | refine blk_alloc ?_ _)); exact BK347.out)) (below_size (by repeat (first | (with_reducible first | exact HB.out | apply below_alloc | apply pw_below_drewN | apply below_drew1 | refine below_set ?_ GE332.out | refine below_set ?_ GE333.out | refine below_set ?_ GE343.out | refine below_set ?_ GE347.out) | exact HB.out)))); have n3_ := Aside0.mk (blk_below (g := gb332) (o := .cells #[.bool a1_0, .string a1_1] 23 (0, 0)) (by (with_reducible repeat (first | refine blk_drewN ?_ _ | refine blk_drew ?_ | refine blk_alloc ?_ _)); exact BK332.out) hb); have n4_ := Aside0.mk (blk_below (g := gb333) (o := .cells #[.bool a2_0, .string a2_1] 23 (0, 0)) (by (with_reducible repeat (first | refine blk_drewN ?_ _ | refine blk_drew ?_ | refine blk_alloc ?_ _)); exact BK333.out) hb); have n5_ := Aside0.mk (blk_below (g := gb343) (o := .cells #[.bool t340, .string t341] 23 (0, 0)) (by (with_reducible repeat (first | refine blk_drewN ?_ _ | refine blk_drew ?_ | refine blk_alloc ?_ _)); exact BK343.out) hb); have n6_ := Aside0.mk (blk_below (g := gb347) (o := .cells #[.bool t344, .string t345] 38 (0, 0)) (by (with_reducible repeat (first | refine blk_drewN ?_ _ | refine blk_drew ?_ | refine blk_alloc ?_ _)); exact BK347.out) hb); have n7_ := Aside0.mk (below_step (by repeat (first | (with_reducible first | exact HB.out | apply below_alloc | apply pw_below_drewN | apply below_drew1 | refine below_set ?_ GE332.out | refine below_set ?_ GE333.out | refine below_set ?_ GE343.out | refine below_set ?_ GE347.out) | exact HB.out)) hb); clear HO339; clear HO358; clear BK332; clear BK333; clear BK343; clear BK347; clear HB; have HO339 := n0_; have HO358 := n1_; have HO363 := n2_; have BK332 := n3_; have BK333 := n4_; have BK343 := n5_; have BK347 := n6_; have HB := n7_; clear n0_ n1_ n2_ n3_ n4_ n5_ n6_ n7_; (try clear hb); (try clear hb2); (try clear hk); (try clear hi); (try clear ho0)))
          (try simp only [Act.put, List.setIfInBounds_toArray, List.set_cons_zero, List.set_cons_succ])
          go_cut [103] (fun v103 wc => ∃ (kq : Nat) (x103_34 : Bool), v103 = .bool x103_34 ∧ Aside0 (sprlaw16_EtagReads.j1 kq t342 t346 t348 t349 t352 t353 t354 t359 x103_34 a1_0 a1_1 a2_0 a2_1 t340 t341 t344 t345 = some r) ∧ Aside0 (kq ≤ kj6) ∧ Aside0 (Kd.R k23 23 wc w.heap.size (fun k_ => k_ ≠ gb332 ∧ k_ ≠ gb333 ∧ k_ ≠ gb343) v357 t354) ∧ Aside0 (Kd.R k38 38 wc w.heap.size (fun k_ => k_ ≠ gb347) v362 t359) ∧ Aside0 (wc.heap[gb332]? = some (.cells #[.bool a1_0, .string a1_1] 23 (0, 0))) ∧ Aside0 (wc.heap[gb333]? = some (.cells #[.bool a2_0, .string a2_1] 23 (0, 0))) ∧ Aside0 (wc.heap[gb343]? = some (.cells #[.bool t340, .string t341] 23 (0, 0))) ∧ Aside0 (wc.heap[gb347]? = some (.cells #[.bool t344, .string t345] 38 (0, 0))) ∧ Aside0 (Below w.heap.size w wc))
          case first =>
            have H := HC35.out
            clear HC35
            by_cases c57 : (t354.length : Int) = (t359.length : Int)
            · rw [if_pos c57] at H
              have c57b0 : ((t354.length : Int) == (t359.length : Int)) = true := beq_iff_eq.mpr c57
              have c57b1 : ((t354.length : Int) != (t359.length : Int)) = false := bne_eq_false_iff_eq.mpr c57
              have c57b2 : (t354.length == t359.length) = true := by first | simpa using c57 | (simp at c57 ⊢; omega)
              clear c57
              (first | rw [c57b0] | (simp only [i64_w, i32_w]; rw [c57b0]) | skip)
              by_cases c58 : (t355 != t360) = true
              · rw [if_pos c58] at H
                have c58b0 : (t355 != t360) = true := c58
                (try (have c58b1 : decide (t355 = t360) = false := by simpa using c58))
                (try (have c58b2 : (t355 == t360) = false := by simpa using c58))
                (try (have c58b3 : ¬ (t355 = t360) := by simpa using c58))
                clear c58
                have H' := Aside0.mk H
                clear H
                obtain ⟨Ao59, co59, eo59⟩ := Kd.R_slice HO358.out
                subst eo59
                obtain ⟨Ao60, co60, eo60⟩ := Kd.R_slice HO363.out
                subst eo60
                go_wp2
                go_meet
                case rel => exact ⟨_, (true), (by first | rfl | (simp; done) | (simp [*]; done)), H', ⟨by have := HJ6.out; first | omega | exact Nat.le_refl _⟩, ⟨by (with_reducible repeat (first | apply Kd.R_alloc | apply Kd.R_drewN | apply Kd.R_drew)); exact Kd.R_mono HO358.out (fun _ hk => ⟨hk.1.1.2, ⟨hk.1.2, hk.2⟩⟩)⟩, ⟨by (with_reducible repeat (first | apply Kd.R_alloc | apply Kd.R_drewN | apply Kd.R_drew)); exact Kd.R_mono HO363.out (fun _ hk => hk.2)⟩, ⟨by (with_reducible repeat (first | refine blk_drewN ?_ _ | refine blk_drew ?_ | refine blk_alloc ?_ _)); exact BK332.out⟩, ⟨by (with_reducible repeat (first | refine blk_drewN ?_ _ | refine blk_drew ?_ | refine blk_alloc ?_ _)); exact BK333.out⟩, ⟨by (with_reducible repeat (first | refine blk_drewN ?_ _ | refine blk_drew ?_ | refine blk_alloc ?_ _)); exact BK343.out⟩, ⟨by (with_reducible repeat (first | refine blk_drewN ?_ _ | refine blk_drew ?_ | refine blk_alloc ?_ _)); exact BK347.out⟩, ⟨by repeat (first | (with_reducible first | exact HB.out | apply below_alloc | apply pw_below_drewN | apply below_drew1 | refine below_set ?_ GE332.out | refine below_set ?_ GE333.out | refine below_set ?_ GE343.out | refine below_set ?_ GE347.out) | exact HB.out)⟩⟩
              · rw [if_neg c58] at H
                have c58b0 : (t355 != t360) = false := by simpa using c58
                (try (have c58b1 : decide (t355 = t360) = true := by simpa using c58))
                (try (have c58b2 : (t355 == t360) = true := by simpa using c58))
                clear c58
                by_cases c61 : (t356 != t361) = true
                · rw [if_pos c61] at H
                  have c61b0 : (t356 != t361) = true := c61
                  (try (have c61b1 : decide (t356 = t361) = false := by simpa using c61))
                  (try (have c61b2 : (t356 == t361) = false := by simpa using c61))
                  (try (have c61b3 : ¬ (t356 = t361) := by simpa using c61))
                  clear c61
                  have H' := Aside0.mk H
                  clear H
                  obtain ⟨Ao62, co62, eo62⟩ := Kd.R_slice HO358.out
                  subst eo62
                  obtain ⟨Ao63, co63, eo63⟩ := Kd.R_slice HO363.out
                  subst eo63
                  go_wp2
                  go_meet
                  case rel => exact ⟨_, (true), (by first | rfl | (simp; done) | (simp [*]; done)), H', ⟨by have := HJ6.out; first | omega | exact Nat.le_refl _⟩, ⟨by (with_reducible repeat (first | apply Kd.R_alloc | apply Kd.R_drewN | apply Kd.R_drew)); exact Kd.R_mono HO358.out (fun _ hk => ⟨hk.1.1.2, ⟨hk.1.2, hk.2⟩⟩)⟩, ⟨by (with_reducible repeat (first | apply Kd.R_alloc | apply Kd.R_drewN | apply Kd.R_drew)); exact Kd.R_mono HO363.out (fun _ hk => hk.2)⟩, ⟨by (with_reducible repeat (first | refine blk_drewN ?_ _ | refine blk_drew ?_ | refine blk_alloc ?_ _)); exact BK332.out⟩, ⟨by (with_reducible repeat (first | refine blk_drewN ?_ _ | refine blk_drew ?_ | refine blk_alloc ?_ _)); exact BK333.out⟩, ⟨by (with_reducible repeat (first | refine blk_drewN ?_ _ | refine blk_drew ?_ | refine blk_alloc ?_ _)); exact BK343.out⟩, ⟨by (with_reducible repeat (first | refine blk_drewN ?_ _ | refine blk_drew ?_ | refine blk_alloc ?_ _)); exact BK347.out⟩, ⟨by repeat (first | (with_reducible first | exact HB.out | apply below_alloc | apply pw_below_drewN | apply below_drew1 | refine below_set ?_ GE332.out | refine below_set ?_ GE333.out | refine below_set ?_ GE343.out | refine below_set ?_ GE347.out) | exact HB.out)⟩⟩
                · rw [if_neg c61] at H
                  have c61b0 : (t356 != t361) = false := by simpa using c61
                  (try (have c61b1 : decide (t356 = t361) = true := by simpa using c61))
                  (try (have c61b2 : (t356 == t361) = true := by simpa using c61))
                  clear c61
                  replace H := Option.bind_eq_some_iff.mp H
                  obtain ⟨t364, A640, H⟩ := H
                  replace H : (sprlaw16_EtagReads.j1 kj6 t342 t346 t348 t349 t352 t353 t354 t359 (!t364) a1_0 a1_1 a2_0 a2_1 t340 t341 t344 t345) = some r := H
                  have A64 := Aside0.mk A640
                  clear A640
                  have H' := Aside0.mk H
                  clear H
                  obtain ⟨Ao65, co65, eo65⟩ := Kd.R_slice HO358.out
                  subst eo65
                  obtain ⟨Ao66, co66, eo66⟩ := Kd.R_slice HO363.out
                  subst eo66
                  go_wp2_with (first | (go_at_call 19; (with_reducible refine (sprref_Texts.calls kj6 _ _ t337 _ _ l3 t364 _ ?side1 ?side2 ?side3 ?side4 A64.out).mono ?_); (case side1 => repeat (first | exact (Kd.R_reads' HO339.out).2.2 | (with_reducible refine Kd.C_alloc ?_ _) | (with_reducible refine Kd.C_drewN ?_ _) | (with_reducible refine Kd.C_drew ?_))); (case side2 => exact (Kd.R_reads' HO339.out).2.1); (case side3 => repeat (first | exact (Kd.C_below HR3.out HB.out) | (with_reducible refine Kd.C_alloc ?_ _) | (with_reducible refine Kd.C_drewN ?_ _) | (with_reducible refine Kd.C_drew ?_))); (case side4 => exact HC3.out); rintro e w' ⟨rfl, ⟨nd, rfl⟩⟩))
                  go_meet
                  case rel => exact ⟨_, (!t364), (by first | rfl | (simp; done) | (simp [*]; done)), H', ⟨by have := HJ6.out; first | omega | exact Nat.le_refl _⟩, ⟨by (with_reducible repeat (first | apply Kd.R_alloc | apply Kd.R_drewN | apply Kd.R_drew)); exact Kd.R_mono HO358.out (fun _ hk => ⟨hk.1.1.2, ⟨hk.1.2, hk.2⟩⟩)⟩, ⟨by (with_reducible repeat (first | apply Kd.R_alloc | apply Kd.R_drewN | apply Kd.R_drew)); exact Kd.R_mono HO363.out (fun _ hk => hk.2)⟩, ⟨by (with_reducible repeat (first | refine blk_drewN ?_ _ | refine blk_drew ?_ | refine blk_alloc ?_ _)); exact BK332.out⟩, ⟨by (with_reducible repeat (first | refine blk_drewN ?_ _ | refine blk_drew ?_ | refine blk_alloc ?_ _)); exact BK333.out⟩, ⟨by (with_reducible repeat (first | refine blk_drewN ?_ _ | refine blk_drew ?_ | refine blk_alloc ?_ _)); exact BK343.out⟩, ⟨by (with_reducible repeat (first | refine blk_drewN ?_ _ | refine blk_drew ?_ | refine blk_alloc ?_ _)); exact BK347.out⟩, ⟨by repeat (first | (with_reducible first | exact HB.out | apply below_alloc | apply pw_below_drewN | apply below_drew1 | refine below_set ?_ GE332.out | refine below_set ?_ GE333.out | refine below_set ?_ GE343.out | refine below_set ?_ GE347.out) | exact HB.out)⟩⟩
            · rw [if_neg c57] at H
              have c57b0 : ((t354.length : Int) == (t359.length : Int)) = false := beq_eq_false_iff_ne.mpr c57
              have c57b1 : ((t354.length : Int) != (t359.length : Int)) = true := bne_iff_ne.mpr c57
              have c57b2 : (t354.length == t359.length) = false := by first | simpa using c57 | (simp at c57 ⊢; omega)
              (first | rw [c57b0] | (simp only [i64_w, i32_w]; rw [c57b0]) | skip)
              have H' := Aside0.mk H
              clear H
              obtain ⟨Ao67, co67, eo67⟩ := Kd.R_slice HO358.out
              subst eo67
              obtain ⟨Ao68, co68, eo68⟩ := Kd.R_slice HO363.out
              subst eo68
              go_wp2
              go_meet
              case rel => exact ⟨_, (true), (by first | rfl | (simp; done) | (simp [*]; done)), H', ⟨by have := HJ6.out; first | omega | exact Nat.le_refl _⟩, ⟨by (with_reducible repeat (first | apply Kd.R_alloc | apply Kd.R_drewN | apply Kd.R_drew)); exact Kd.R_mono HO358.out (fun _ hk => ⟨hk.1.1.2, ⟨hk.1.2, hk.2⟩⟩)⟩, ⟨by (with_reducible repeat (first | apply Kd.R_alloc | apply Kd.R_drewN | apply Kd.R_drew)); exact Kd.R_mono HO363.out (fun _ hk => hk.2)⟩, ⟨by (with_reducible repeat (first | refine blk_drewN ?_ _ | refine blk_drew ?_ | refine blk_alloc ?_ _)); exact BK332.out⟩, ⟨by (with_reducible repeat (first | refine blk_drewN ?_ _ | refine blk_drew ?_ | refine blk_alloc ?_ _)); exact BK333.out⟩, ⟨by (with_reducible repeat (first | refine blk_drewN ?_ _ | refine blk_drew ?_ | refine blk_alloc ?_ _)); exact BK343.out⟩, ⟨by (with_reducible repeat (first | refine blk_drewN ?_ _ | refine blk_drew ?_ | refine blk_alloc ?_ _)); exact BK347.out⟩, ⟨by repeat (first | (with_reducible first | exact HB.out | apply below_alloc | apply pw_below_drewN | apply below_drew1 | refine below_set ?_ GE332.out | refine below_set ?_ GE333.out | refine below_set ?_ GE343.out | refine below_set ?_ GE347.out) | exact HB.out)⟩⟩
          case rest =>
            clear HC35
            try clear c1
            try clear c2
            try clear p2
            try clear c3
            try clear c4
            try clear c5
            try clear c6
            try clear c7
            try clear c10
            try clear c11
            try clear c11b0
            try clear c11b1
            try clear c12
            try clear c12b0
            try clear c12b1
            try clear c13
            try clear c14
            try clear c15
            try clear c15b0
            try clear c15b1
            try clear c16
            try clear c17
            try clear c18
            try clear c20
            try clear c24
            try clear c39
            try clear c40
            try clear c44
            try clear c45
            try clear c46
            try clear c48
            try clear c57
            try clear c57b0
            try clear c57b1
            try clear c57b2
            try clear c58
            try clear c58b0
            try clear c58b1
            try clear c58b2
            try clear c61
            try clear c61b0
            try clear c61b1
            try clear c61b2
            try clear hcz14_0
            try clear hcz14_1
            try clear hcz17_0
            try clear hcz17_1
            try clear hcz18_0
            try clear hcz18_1
            try clear hcz21_0
            try clear hcz21_1
            try clear hcz22_0
            try clear hcz22_1
            try clear hcz41_0
            try clear hcz41_1
            try clear hcz47_0
            try clear hcz47_1
            try clear hcz49_0
            try clear hcz49_1
            try clear hcz51_0
            try clear hcz51_1
            try clear hfz14_0
            try clear hfz14_1
            try clear hfz17_0
            try clear hfz17_1
            try clear hfz18_0
            try clear hfz18_1
            try clear hfz21_0
            try clear hfz21_1
            try clear hfz22_0
            try clear hfz22_1
            try clear hfz41_0
            try clear hfz41_1
            try clear hfz47_0
            try clear hfz47_1
            try clear hfz49_0
            try clear hfz49_1
            try clear hfz51_0
            try clear hfz51_1
            try clear p2
            obtain ⟨kq, x103_34, rfl, HA, HJ34, HO_18, HO_21, BK332, BK333, BK343, BK347, HB⟩ := hcut
            cases kq with
            | zero => exact absurd HA.out (by simp [sprlaw16_EtagReads.j1])
            | succ kj34 =>
              have H := HA.out
              clear HA
              simp only [sprlaw16_EtagReads.j1] at H
              by_cases c69 : x103_34 = true
              · subst c69
                have H1 : (some false) = some r := by rw [if_pos rfl] at H; exact H
                clear H
                have H := H1
                clear H1
                exact absurd ((Option.some.inj H).trans hT.out) (by decide)
              · replace c69 := Bool.eq_false_iff.mpr c69
                subst c69
                have H1 : (sprlaw16_EtagReads.l0 kj34 t342 t346 t348 t349 t352 t353 t354 t359 0 a1_0 a1_1 a2_0 a2_1 t340 t341 t344 t345) = some r := by rw [if_neg (show ¬ (false = true) by decide)] at H; exact H
                clear H
                have H := H1
                clear H1
                have H' := Aside0.mk H
                clear H
                go_wp2
                go_loopg [24] kj34 (fun kq v24 w' => ∃ (x24_3 : Int), v24 = .int .i64 x24_3 ∧ Aside0 (sprlaw16_EtagReads.l0 kq t342 t346 t348 t349 t352 t353 t354 t359 x24_3 a1_0 a1_1 a2_0 a2_1 t340 t341 t344 t345 = some r) ∧ Aside0 (kq ≤ kj34) ∧ Aside0 (Kd.R k23 23 w' w.heap.size (fun k_ => k_ ≠ gb332 ∧ k_ ≠ gb333 ∧ k_ ≠ gb343) v357 t354) ∧ Aside0 (Kd.R k38 38 w' w.heap.size (fun k_ => k_ ≠ gb347) v362 t359) ∧ Aside0 (w'.heap[gb332]? = some (.cells #[.bool a1_0, .string a1_1] 23 (0, 0))) ∧ Aside0 (w'.heap[gb333]? = some (.cells #[.bool a2_0, .string a2_1] 23 (0, 0))) ∧ Aside0 (w'.heap[gb343]? = some (.cells #[.bool t340, .string t341] 23 (0, 0))) ∧ Aside0 (w'.heap[gb347]? = some (.cells #[.bool t344, .string t345] 38 (0, 0))) ∧ Aside0 (Below w.heap.size w w'))
                case atStart => exact ⟨(0), (by first | rfl | (simp; done) | (simp [*]; done)), H', ⟨Nat.le_refl _⟩, ⟨by (with_reducible repeat (first | apply Kd.R_alloc | apply Kd.R_drewN | apply Kd.R_drew)); exact HO_18.out⟩, ⟨by (with_reducible repeat (first | apply Kd.R_alloc | apply Kd.R_drewN | apply Kd.R_drew)); exact HO_21.out⟩, ⟨by (with_reducible repeat (first | refine blk_drewN ?_ _ | refine blk_drew ?_ | refine blk_alloc ?_ _)); exact BK332.out⟩, ⟨by (with_reducible repeat (first | refine blk_drewN ?_ _ | refine blk_drew ?_ | refine blk_alloc ?_ _)); exact BK333.out⟩, ⟨by (with_reducible repeat (first | refine blk_drewN ?_ _ | refine blk_drew ?_ | refine blk_alloc ?_ _)); exact BK343.out⟩, ⟨by (with_reducible repeat (first | refine blk_drewN ?_ _ | refine blk_drew ?_ | refine blk_alloc ?_ _)); exact BK347.out⟩, ⟨by repeat (first | (with_reducible first | exact HB.out | apply below_alloc | apply pw_below_drewN | apply below_drew1 | refine below_set ?_ GE332.out | refine below_set ?_ GE333.out | refine below_set ?_ GE343.out | refine below_set ?_ GE347.out) | exact HB.out)⟩⟩
                case round =>
                  clear H'
                  try clear c1
                  try clear c2
                  try clear p2
                  try clear c3
                  try clear c4
                  try clear c5
                  try clear c6
                  try clear c7
                  try clear c10
                  try clear c11
                  try clear c11b0
                  try clear c11b1
                  try clear c12
                  try clear c12b0
                  try clear c12b1
                  try clear c13
                  try clear c14
                  try clear c15
                  try clear c15b0
                  try clear c15b1
                  try clear c16
                  try clear c17
                  try clear c18
                  try clear c20
                  try clear c24
                  try clear c39
                  try clear c40
                  try clear c44
                  try clear c45
                  try clear c46
                  try clear c48
                  try clear c57
                  try clear c57b0
                  try clear c57b1
                  try clear c57b2
                  try clear c58
                  try clear c58b0
                  try clear c58b1
                  try clear c58b2
                  try clear c61
                  try clear c61b0
                  try clear c61b1
                  try clear c61b2
                  try clear c69
                  try clear hcz14_0
                  try clear hcz14_1
                  try clear hcz17_0
                  try clear hcz17_1
                  try clear hcz18_0
                  try clear hcz18_1
                  try clear hcz21_0
                  try clear hcz21_1
                  try clear hcz22_0
                  try clear hcz22_1
                  try clear hcz41_0
                  try clear hcz41_1
                  try clear hcz47_0
                  try clear hcz47_1
                  try clear hcz49_0
                  try clear hcz49_1
                  try clear hcz51_0
                  try clear hcz51_1
                  try clear hfz14_0
                  try clear hfz14_1
                  try clear hfz17_0
                  try clear hfz17_1
                  try clear hfz18_0
                  try clear hfz18_1
                  try clear hfz21_0
                  try clear hfz21_1
                  try clear hfz22_0
                  try clear hfz22_1
                  try clear hfz41_0
                  try clear hfz41_1
                  try clear hfz47_0
                  try clear hfz47_1
                  try clear hfz49_0
                  try clear hfz49_1
                  try clear hfz51_0
                  try clear hfz51_1
                  try clear p2
                  obtain ⟨x24_3, rfl, HA, HK3, HO_18, HO_21, BK332, BK333, BK343, BK347, HB⟩ := hrel
                  cases gk with
                  | zero => exact absurd HA.out (by simp [sprlaw16_EtagReads.l0])
                  | succ k3 =>
                    have H := HA.out
                    clear HA
                    simp only [sprlaw16_EtagReads.l0] at H
                    by_cases c70 : x24_3 < (t354.length : Int)
                    · rw [if_pos c70] at H
                      have c70b0 : decide (x24_3 < (t354.length : Int)) = true := decide_eq_true c70
                      clear c70
                      by_cases c71 : 0 ≤ x24_3
                      · rw [if_pos c71] at H
                        have c71b0 : decide (0 ≤ x24_3) = true := decide_eq_true c71
                        clear c71
                        replace H := Option.bind_eq_some_iff.mp H
                        obtain ⟨⟨t366, t367⟩, A720, H⟩ := H
                        replace H : (if x24_3 < (t359.length : Int) then (if (!(t366 == ((rd_T38 t359 x24_3).f0)) || (!(t367.toList == (((rd_T38 t359 x24_3).f1).toList)))) = true then (some false) else (sprlaw16_EtagReads.l0 k3 t342 t346 t348 t349 t352 t353 t354 t359 (wrap64 (x24_3 + 1)) a1_0 a1_1 a2_0 a2_1 t340 t341 t344 t345)) else (none)) = some r := H
                        have A72 := Aside0.mk A720
                        clear A720
                        by_cases c73 : x24_3 < (t359.length : Int)
                        · rw [if_pos c73] at H
                          have c73b0 : decide (x24_3 < (t359.length : Int)) = true := decide_eq_true c73
                          clear c73
                          by_cases c74 : (!(t366 == ((rd_T38 t359 x24_3).f0)) || (!(t367.toList == (((rd_T38 t359 x24_3).f1).toList)))) = true
                          · rw [if_pos c74] at H
                            have c74b0 : (!(t366 == ((rd_T38 t359 x24_3).f0)) || (!(t367.toList == (((rd_T38 t359 x24_3).f1).toList)))) = true := c74
                            clear c74
                            exact absurd ((Option.some.inj H).trans hT.out) (by decide)
                          · rw [if_neg c74] at H
                            have c74b0 : (!(t366 == ((rd_T38 t359 x24_3).f0)) || (!(t367.toList == (((rd_T38 t359 x24_3).f1).toList)))) = false := by simpa using c74
                            clear c74
                            have H' := Aside0.mk H
                            clear H
                            obtain ⟨Ao75, co75, eo75⟩ := Kd.R_slice HO_18.out
                            subst eo75
                            try go_wp2
                            have n0_ := Aside0.mk (Kd.R_drew HO_18.out)
                            have n1_ := Aside0.mk (Kd.R_drew HO_21.out)
                            have n2_ := Aside0.mk (blk_drew BK332.out)
                            have n3_ := Aside0.mk (blk_drew BK333.out)
                            have n4_ := Aside0.mk (blk_drew BK343.out)
                            have n5_ := Aside0.mk (blk_drew BK347.out)
                            have n6_ := Aside0.mk (below_drew1 HB.out)
                            clear HO_18
                            clear HO_21
                            clear BK332
                            clear BK333
                            clear BK343
                            clear BK347
                            clear HB
                            have HO_18 := n0_
                            have HO_21 := n1_
                            have BK332 := n2_
                            have BK333 := n3_
                            have BK343 := n4_
                            have BK347 := n5_
                            have HB := n6_
                            clear n0_ n1_ n2_ n3_ n4_ n5_ n6_
                            have p365 : 0 ≤ (x24_3 : Int) := of_decide_eq_true (by first | (with_reducible assumption) | assumption)
                            have q365 : x24_3 < (t354.length : Int) := of_decide_eq_true (by first | (with_reducible assumption) | assumption)
                            obtain ⟨ad365, e365, hx365_0, hx365_1⟩ := at_T23 (Kd.R_reads' HO_18.out).2.2 x24_3 p365 q365
                            cases e365
                            replace p365 := eq_true p365
                            replace q365 := eq_true q365
                            obtain ⟨Ao77, co77, eo77⟩ := Kd.R_slice HO_21.out
                            (first | subst eo77 | (injection eo77 with f1_ f2_ f3_; have f4_ := f1_.symm; have f5_ := f3_.symm; clear f1_ f2_ f3_; subst f4_; subst f5_))
                            have p368 : 0 ≤ (x24_3 : Int) := of_decide_eq_true (by first | (with_reducible assumption) | assumption)
                            have q368 : x24_3 < (t359.length : Int) := of_decide_eq_true (by first | (with_reducible assumption) | assumption)
                            obtain ⟨ad368, e368, hx368_0, hx368_1⟩ := at_T38 (Kd.R_reads' HO_21.out).2.2 x24_3 p368 q368
                            cases e368
                            replace p368 := eq_true p368
                            replace q368 := eq_true q368
                            refine start_ (n := 10) (S := fun w' => w'.cell? (ad365.add ((x24_3).toNat * 2)) = some (.bool ((rd_T23 t354 x24_3).f0)) ∧ w'.cell? ⟨(ad365.add ((x24_3).toNat * 2)).block, (ad365.add ((x24_3).toNat * 2)).off + 1, none⟩ = some (.string ((rd_T23 t354 x24_3).f1)) ∧ w'.cell? (ad368.add ((x24_3).toNat * 2)) = some (.bool ((rd_T38 t359 x24_3).f0)) ∧ w'.cell? ⟨(ad368.add ((x24_3).toNat * 2)).block, (ad368.add ((x24_3).toNat * 2)).off + 1, none⟩ = some (.string ((rd_T38 t359 x24_3).f1))) (ds := []) #[false, false, false, false, false, false, false, false, false, false] (by kernel_rfl) rfl rfl ⟨hx365_0, hx365_1, hx368_0, hx368_1⟩ (fun hHeld => ?_); refine with_tabW sprlaw16_EtagReads.tab17 sprlaw16_EtagReads.bits17 (fun HT_ HW_ => ?_)
                            generalize wr.drew = w76 at HO_18 HO_21 BK332 BK333 BK343 BK347 HB hx365_0 hx365_1 hx368_0 hx368_1 hHeld ⊢
                            refine pure_ (i := 0) (N := some 110) (v := ?_) (a' := ?_) #[true, false, false, false, false, false, false, false, false, false] rfl rfl (any_of HT_.out (by kernel_rfl)) (fun _ _ _ h => h) (Or.inl ⟨by rfl, ?_⟩) ?_ ?_
                            rotate_left
                            · intro w'
                              go_simp
                              with_reducible rfl
                            rotate_left
                            · simp only [Act.put, List.setIfInBounds_toArray, List.set_cons_zero, List.set_cons_succ, i64_w, i32_w]
                              rfl
                            refine pure_ (i := 1) (N := some 111) (v := ?_) (a' := ?_) #[true, true, false, false, false, false, false, false, false, false] rfl rfl (any_of HT_.out (by kernel_rfl)) (fun _ _ _ h => h) (Or.inl ⟨by rfl, ?_⟩) ?_ ?_
                            rotate_left
                            · intro w'
                              go_simp
                              with_reducible rfl
                            rotate_left
                            · simp only [Act.put, List.setIfInBounds_toArray, List.set_cons_zero, List.set_cons_succ, i64_w, i32_w]
                              rfl
                            refine pure_ (i := 2) (N := some 112) (v := ?_) (a' := ?_) #[true, true, true, false, false, false, false, false, false, false] rfl rfl (any_of HT_.out (by kernel_rfl)) (fun _ _ _ h => h) (Or.inl ⟨by rfl, ?_⟩) ?_ ?_
                            rotate_left
                            · intro w'
                              go_simp
                              with_reducible rfl
                            rotate_left
                            · simp only [Act.put, List.setIfInBounds_toArray, List.set_cons_zero, List.set_cons_succ, i64_w, i32_w]
                              rfl
                            refine pure_ (i := 5) (N := some 115) (v := ?_) (a' := ?_) #[true, true, true, false, false, true, false, false, false, false] rfl rfl (any_of HT_.out (by kernel_rfl)) (fun _ _ _ h => h) (Or.inl ⟨by rfl, ?_⟩) ?_ ?_
                            rotate_left
                            · intro w'
                              go_simp
                              with_reducible rfl
                            rotate_left
                            · simp only [Act.put, List.setIfInBounds_toArray, List.set_cons_zero, List.set_cons_succ, i64_w, i32_w]
                              rfl
                            refine pure_ (i := 6) (N := some 116) (v := ?_) (a' := ?_) #[true, true, true, false, false, true, true, false, false, false] rfl rfl (any_of HT_.out (by kernel_rfl)) (fun _ _ _ h => h) (Or.inl ⟨by rfl, ?_⟩) ?_ ?_
                            rotate_left
                            · intro w'
                              go_simp
                              with_reducible rfl
                            rotate_left
                            · simp only [Act.put, List.setIfInBounds_toArray, List.set_cons_zero, List.set_cons_succ, i64_w, i32_w]
                              rfl
                            refine pure_ (i := 7) (N := some 117) (v := ?_) (a' := ?_) #[true, true, true, false, false, true, true, true, false, false] rfl rfl (any_of HT_.out (by kernel_rfl)) (fun _ _ _ h => h) (Or.inl ⟨by rfl, ?_⟩) ?_ ?_
                            rotate_left
                            · intro w'
                              go_simp
                              with_reducible rfl
                            rotate_left
                            · simp only [Act.put, List.setIfInBounds_toArray, List.set_cons_zero, List.set_cons_succ, i64_w, i32_w]
                              rfl
                            refine take_ (i := 3) (N := some 113) (v := ?_) (a' := ?_) #[true, true, true, true, false, true, true, true, false, false] rfl rfl (take_ofW HT_.out HW_.out (by kernel_rfl)) (fun _ _ _ h => h) (Or.inl ⟨by rfl, ?_⟩) hHeld ?_ ?_
                            rotate_left
                            · rintro w' ⟨s0, s1, s2, s3⟩
                              go_simp
                              with_reducible rfl
                            rotate_left
                            · simp only [Act.put, List.setIfInBounds_toArray, List.set_cons_zero, List.set_cons_succ, i64_w, i32_w]
                              rfl
                            refine take_ (i := 8) (N := some 118) (v := ?_) (a' := ?_) #[true, true, true, true, false, true, true, true, true, false] rfl rfl (take_ofW HT_.out HW_.out (by kernel_rfl)) (fun _ _ _ h => h) (Or.inl ⟨by rfl, ?_⟩) hHeld ?_ ?_
                            rotate_left
                            · rintro w' ⟨s0, s1, s2, s3⟩
                              go_simp
                              with_reducible rfl
                            rotate_left
                            · simp only [Act.put, List.setIfInBounds_toArray, List.set_cons_zero, List.set_cons_succ, i64_w, i32_w]
                              rfl
                            refine one_ (i := 4) (N := some 114) #[true, true, true, true, true, true, true, true, true, false] rfl rfl (one_of HT_.out (by kernel_rfl)) (by decide) (fun K hK => ?_)
                            refine goes_ Tryd.func17 (by kernel_rfl) rfl #[.agg #[.bool ((rd_T23 t354 x24_3).f0), .string ((rd_T23 t354 x24_3).f1)]] (by rfl) rfl rfl (by (try simp only [List.map_toArray, List.map_cons, List.map_nil]); first | done | rfl | (simp only [List.length_drop, List.length_take]; rfl)) ?_
                            with_reducible refine (sprlaw16_Plain.calls ((rd_T23 t354 x24_3).f0) ((rd_T23 t354 x24_3).f1) t366 t367 _ A72.out).mono ?_
                            rintro e w78 ⟨rfl, hb⟩
                            have HS0_ := (hb.cell (World.block_lt_of_cell? _ _ (hHeld.1))).trans (hHeld.1)
                            have HS1_ := (hb.cell (World.block_lt_of_cell? _ _ (hHeld.2.1))).trans (hHeld.2.1)
                            have HS2_ := (hb.cell (World.block_lt_of_cell? _ _ (hHeld.2.2.1))).trans (hHeld.2.2.1)
                            have HS3_ := (hb.cell (World.block_lt_of_cell? _ _ (hHeld.2.2.2))).trans (hHeld.2.2.2)
                            refine ⟨_, rfl, ?_⟩
                            have n0_ := Aside0.mk (Kd.R_below (by (with_reducible repeat (first | apply Kd.R_alloc | apply Kd.R_drewN | apply Kd.R_drew)); exact HO_18.out) hb)
                            have n1_ := Aside0.mk (Kd.R_below (by (with_reducible repeat (first | apply Kd.R_alloc | apply Kd.R_drewN | apply Kd.R_drew)); exact HO_21.out) hb)
                            have n2_ := Aside0.mk (blk_below (g := gb332) (o := .cells #[.bool a1_0, .string a1_1] 23 (0, 0)) (by (with_reducible repeat (first | refine blk_drewN ?_ _ | refine blk_drew ?_ | refine blk_alloc ?_ _)); exact BK332.out) hb)
                            have n3_ := Aside0.mk (blk_below (g := gb333) (o := .cells #[.bool a2_0, .string a2_1] 23 (0, 0)) (by (with_reducible repeat (first | refine blk_drewN ?_ _ | refine blk_drew ?_ | refine blk_alloc ?_ _)); exact BK333.out) hb)
                            have n4_ := Aside0.mk (blk_below (g := gb343) (o := .cells #[.bool t340, .string t341] 23 (0, 0)) (by (with_reducible repeat (first | refine blk_drewN ?_ _ | refine blk_drew ?_ | refine blk_alloc ?_ _)); exact BK343.out) hb)
                            have n5_ := Aside0.mk (blk_below (g := gb347) (o := .cells #[.bool t344, .string t345] 38 (0, 0)) (by (with_reducible repeat (first | refine blk_drewN ?_ _ | refine blk_drew ?_ | refine blk_alloc ?_ _)); exact BK347.out) hb)
                            have n6_ := Aside0.mk (below_step (by repeat (first | (with_reducible first | exact HB.out | apply below_alloc | apply pw_below_drewN | apply below_drew1 | refine below_set ?_ GE332.out | refine below_set ?_ GE333.out | refine below_set ?_ GE343.out | refine below_set ?_ GE347.out) | exact HB.out)) hb)
                            clear HO_18
                            clear HO_21
                            clear BK332
                            clear BK333
                            clear BK343
                            clear BK347
                            clear HB
                            have HO_18 := n0_
                            have HO_21 := n1_
                            have BK332 := n2_
                            have BK333 := n3_
                            have BK343 := n4_
                            have BK347 := n5_
                            have HB := n6_
                            clear n0_ n1_ n2_ n3_ n4_ n5_ n6_
                            (try clear hb)
                            (try clear hb2)
                            (try clear hk)
                            (try clear hi)
                            refine hK.out _ _ ⟨HS0_, HS1_, HS2_, HS3_⟩ (fun hHeld => ?_)
                            clear hK K
                            refine norm_ (a' := ?_) ?_ ?_
                            rotate_left
                            · show Act.put _ (some 114) _ = _
                              simp only [Act.put, List.setIfInBounds_toArray, List.set_cons_zero, List.set_cons_succ, i64_w, i32_w]
                              rfl
                            refine pure_ (i := 9) (N := some 119) (v := ?_) (a' := ?_) #[true, true, true, true, true, true, true, true, true, true] rfl rfl (any_of HT_.out (by kernel_rfl)) (fun _ _ _ h => h) (Or.inl ⟨by rfl, ?_⟩) ?_ ?_
                            rotate_left
                            · intro w'
                              go_simp
                              with_reducible rfl
                            rotate_left
                            · simp only [Act.put, List.setIfInBounds_toArray, List.set_cons_zero, List.set_cons_succ, i64_w, i32_w]
                              rfl
                            refine done_ (done_of HT_.out (by kernel_rfl)) ?_
                            try go_wp2
                            go_roundg k3
                            case measure => have := HJ6.out; have := HJ34.out; have := HK3.out; omega
                            case rel => exact ⟨(wrap64 (x24_3 + 1)), (by first | rfl | (simp; done) | (simp [*]; done)), H', ⟨by have := HJ6.out; have := HJ34.out; have := HK3.out; omega⟩, ⟨by (with_reducible repeat (first | apply Kd.R_alloc | apply Kd.R_drewN | apply Kd.R_drew)); exact HO_18.out⟩, ⟨by (with_reducible repeat (first | apply Kd.R_alloc | apply Kd.R_drewN | apply Kd.R_drew)); exact HO_21.out⟩, ⟨by (with_reducible repeat (first | refine blk_drewN ?_ _ | refine blk_drew ?_ | refine blk_alloc ?_ _)); exact BK332.out⟩, ⟨by (with_reducible repeat (first | refine blk_drewN ?_ _ | refine blk_drew ?_ | refine blk_alloc ?_ _)); exact BK333.out⟩, ⟨by (with_reducible repeat (first | refine blk_drewN ?_ _ | refine blk_drew ?_ | refine blk_alloc ?_ _)); exact BK343.out⟩, ⟨by (with_reducible repeat (first | refine blk_drewN ?_ _ | refine blk_drew ?_ | refine blk_alloc ?_ _)); exact BK347.out⟩, ⟨by repeat (first | (with_reducible first | exact HB.out | apply below_alloc | apply pw_below_drewN | apply below_drew1 | refine below_set ?_ GE332.out | refine below_set ?_ GE333.out | refine below_set ?_ GE343.out | refine below_set ?_ GE347.out) | exact HB.out)⟩⟩
                        · rw [if_neg c73] at H
                          exact absurd H (by simp)
                      · rw [if_neg c71] at H
                        exact absurd H (by simp)
                    · rw [if_neg c70] at H
                      have c70b0 : decide (x24_3 < (t354.length : Int)) = false := decide_eq_false c70
                      clear c70
                      replace H := Option.bind_eq_some_iff.mp H
                      obtain ⟨t369, A790, H⟩ := H
                      replace H : (if t369 = true then ((sprlaw16_Plain.f t340 t341).bind fun bt370 => (if (bt370.1 == t344 && (bt370.2.toList == t345.toList)) = true then (if (t342 == t346) = true then (if t348.toList = t352.toList then (if (t349 == t353) = true then ((etag_Strong.f a1_0 a1_1 a2_0 a2_1).bind fun t372 => ((sprlaw16_Plain.f a1_0 a1_1).bind fun bt373 => ((sprlaw16_Plain.f a2_0 a2_1).bind fun bt375 => ((sprref14_Strong.f bt373.1 bt373.2 bt375.1 bt375.2).bind fun t377 => (if (t372 == t377) = true then ((etag_Weak.f a1_0 a1_1 a2_0 a2_1).bind fun t378 => ((sprlaw16_Plain.f a1_0 a1_1).bind fun bt379 => ((sprlaw16_Plain.f a2_0 a2_1).bind fun bt381 => ((sprref14_Weak.f bt379.1 bt379.2 bt381.1 bt381.2).bind fun t383 => (some (t378 == t383)))))) else (some false)))))) else (some false)) else (some false)) else (some false)) else (some false))) else (some false)) = some r := H
                      have A79 := Aside0.mk A790
                      clear A790
                      by_cases c80 : t369 = true
                      · subst c80
                        have H1 : ((sprlaw16_Plain.f t340 t341).bind fun bt370 => (if (bt370.1 == t344 && (bt370.2.toList == t345.toList)) = true then (if (t342 == t346) = true then (if t348.toList = t352.toList then (if (t349 == t353) = true then ((etag_Strong.f a1_0 a1_1 a2_0 a2_1).bind fun t372 => ((sprlaw16_Plain.f a1_0 a1_1).bind fun bt373 => ((sprlaw16_Plain.f a2_0 a2_1).bind fun bt375 => ((sprref14_Strong.f bt373.1 bt373.2 bt375.1 bt375.2).bind fun t377 => (if (t372 == t377) = true then ((etag_Weak.f a1_0 a1_1 a2_0 a2_1).bind fun t378 => ((sprlaw16_Plain.f a1_0 a1_1).bind fun bt379 => ((sprlaw16_Plain.f a2_0 a2_1).bind fun bt381 => ((sprref14_Weak.f bt379.1 bt379.2 bt381.1 bt381.2).bind fun t383 => (some (t378 == t383)))))) else (some false)))))) else (some false)) else (some false)) else (some false)) else (some false))) = some r := by rw [if_pos rfl] at H; exact H
                        clear H
                        have H := H1
                        clear H1
                        replace H := Option.bind_eq_some_iff.mp H
                        obtain ⟨⟨t370, t371⟩, A810, H⟩ := H
                        replace H : (if (t370 == t344 && (t371.toList == t345.toList)) = true then (if (t342 == t346) = true then (if t348.toList = t352.toList then (if (t349 == t353) = true then ((etag_Strong.f a1_0 a1_1 a2_0 a2_1).bind fun t372 => ((sprlaw16_Plain.f a1_0 a1_1).bind fun bt373 => ((sprlaw16_Plain.f a2_0 a2_1).bind fun bt375 => ((sprref14_Strong.f bt373.1 bt373.2 bt375.1 bt375.2).bind fun t377 => (if (t372 == t377) = true then ((etag_Weak.f a1_0 a1_1 a2_0 a2_1).bind fun t378 => ((sprlaw16_Plain.f a1_0 a1_1).bind fun bt379 => ((sprlaw16_Plain.f a2_0 a2_1).bind fun bt381 => ((sprref14_Weak.f bt379.1 bt379.2 bt381.1 bt381.2).bind fun t383 => (some (t378 == t383)))))) else (some false)))))) else (some false)) else (some false)) else (some false)) else (some false)) = some r := H
                        have A81 := Aside0.mk A810
                        clear A810
                        by_cases c82 : (t370 == t344 && (t371.toList == t345.toList)) = true
                        · rw [if_pos c82] at H
                          have c82b0 : (t370 == t344 && (t371.toList == t345.toList)) = true := c82
                          (try (have c82b1 : decide (t370 = t344 && (t371.toList == t345.toList)) = true := by simpa using c82))
                          (try (have c82b2 : (t370 == t344 && (t371.toList == t345.toList)) = true := by simpa using c82))
                          clear c82
                          by_cases c83 : (t342 == t346) = true
                          · rw [if_pos c83] at H
                            have c83b0 : (t342 == t346) = true := c83
                            (try (have c83b1 : decide (t342 = t346) = true := by simpa using c83))
                            (try (have c83b2 : (t342 == t346) = true := by simpa using c83))
                            clear c83
                            by_cases c84 : t348.toList = t352.toList
                            · rw [if_pos c84] at H
                              have c84b0 : (t348.toList == t352.toList) = true := beq_iff_eq.mpr c84
                              have c84b1 : (t348.toList != t352.toList) = false := bne_eq_false_iff_eq.mpr c84
                              clear c84
                              by_cases c85 : (t349 == t353) = true
                              · rw [if_pos c85] at H
                                have c85b0 : (t349 == t353) = true := c85
                                (try (have c85b1 : decide (t349 = t353) = true := by simpa using c85))
                                (try (have c85b2 : (t349 == t353) = true := by simpa using c85))
                                clear c85
                                replace H := Option.bind_eq_some_iff.mp H
                                obtain ⟨t372, A860, H⟩ := H
                                replace H : ((sprlaw16_Plain.f a1_0 a1_1).bind fun bt373 => ((sprlaw16_Plain.f a2_0 a2_1).bind fun bt375 => ((sprref14_Strong.f bt373.1 bt373.2 bt375.1 bt375.2).bind fun t377 => (if (t372 == t377) = true then ((etag_Weak.f a1_0 a1_1 a2_0 a2_1).bind fun t378 => ((sprlaw16_Plain.f a1_0 a1_1).bind fun bt379 => ((sprlaw16_Plain.f a2_0 a2_1).bind fun bt381 => ((sprref14_Weak.f bt379.1 bt379.2 bt381.1 bt381.2).bind fun t383 => (some (t378 == t383)))))) else (some false))))) = some r := H
                                have A86 := Aside0.mk A860
                                clear A860
                                replace H := Option.bind_eq_some_iff.mp H
                                obtain ⟨⟨t373, t374⟩, A870, H⟩ := H
                                replace H : ((sprlaw16_Plain.f a2_0 a2_1).bind fun bt375 => ((sprref14_Strong.f t373 t374 bt375.1 bt375.2).bind fun t377 => (if (t372 == t377) = true then ((etag_Weak.f a1_0 a1_1 a2_0 a2_1).bind fun t378 => ((sprlaw16_Plain.f a1_0 a1_1).bind fun bt379 => ((sprlaw16_Plain.f a2_0 a2_1).bind fun bt381 => ((sprref14_Weak.f bt379.1 bt379.2 bt381.1 bt381.2).bind fun t383 => (some (t378 == t383)))))) else (some false)))) = some r := H
                                have A87 := Aside0.mk A870
                                clear A870
                                replace H := Option.bind_eq_some_iff.mp H
                                obtain ⟨⟨t375, t376⟩, A880, H⟩ := H
                                replace H : ((sprref14_Strong.f t373 t374 t375 t376).bind fun t377 => (if (t372 == t377) = true then ((etag_Weak.f a1_0 a1_1 a2_0 a2_1).bind fun t378 => ((sprlaw16_Plain.f a1_0 a1_1).bind fun bt379 => ((sprlaw16_Plain.f a2_0 a2_1).bind fun bt381 => ((sprref14_Weak.f bt379.1 bt379.2 bt381.1 bt381.2).bind fun t383 => (some (t378 == t383)))))) else (some false))) = some r := H
                                have A88 := Aside0.mk A880
                                clear A880
                                replace H := Option.bind_eq_some_iff.mp H
                                obtain ⟨t377, A890, H⟩ := H
                                replace H : (if (t372 == t377) = true then ((etag_Weak.f a1_0 a1_1 a2_0 a2_1).bind fun t378 => ((sprlaw16_Plain.f a1_0 a1_1).bind fun bt379 => ((sprlaw16_Plain.f a2_0 a2_1).bind fun bt381 => ((sprref14_Weak.f bt379.1 bt379.2 bt381.1 bt381.2).bind fun t383 => (some (t378 == t383)))))) else (some false)) = some r := H
                                have A89 := Aside0.mk A890
                                clear A890
                                by_cases c90 : (t372 == t377) = true
                                · rw [if_pos c90] at H
                                  have c90b0 : (t372 == t377) = true := c90
                                  (try (have c90b1 : decide (t372 = t377) = true := by simpa using c90))
                                  (try (have c90b2 : (t372 == t377) = true := by simpa using c90))
                                  clear c90
                                  replace H := Option.bind_eq_some_iff.mp H
                                  obtain ⟨t378, A910, H⟩ := H
                                  replace H : ((sprlaw16_Plain.f a1_0 a1_1).bind fun bt379 => ((sprlaw16_Plain.f a2_0 a2_1).bind fun bt381 => ((sprref14_Weak.f bt379.1 bt379.2 bt381.1 bt381.2).bind fun t383 => (some (t378 == t383))))) = some r := H
                                  have A91 := Aside0.mk A910
                                  clear A910
                                  replace H := Option.bind_eq_some_iff.mp H
                                  obtain ⟨⟨t379, t380⟩, A920, H⟩ := H
                                  replace H : ((sprlaw16_Plain.f a2_0 a2_1).bind fun bt381 => ((sprref14_Weak.f t379 t380 bt381.1 bt381.2).bind fun t383 => (some (t378 == t383)))) = some r := H
                                  have A92 := Aside0.mk A920
                                  clear A920
                                  replace H := Option.bind_eq_some_iff.mp H
                                  obtain ⟨⟨t381, t382⟩, A930, H⟩ := H
                                  replace H : ((sprref14_Weak.f t379 t380 t381 t382).bind fun t383 => (some (t378 == t383))) = some r := H
                                  have A93 := Aside0.mk A930
                                  clear A930
                                  replace H := Option.bind_eq_some_iff.mp H
                                  obtain ⟨t383, A940, H⟩ := H
                                  replace H : (some (t378 == t383)) = some r := H
                                  have A94 := Aside0.mk A940
                                  clear A940
                                  obtain rfl := Option.some.inj H
                                  obtain ⟨Ao95, co95, eo95⟩ := Kd.R_slice HO_18.out
                                  subst eo95
                                  try go_wp2
                                  have n0_ := Aside0.mk (Kd.R_drew HO_18.out)
                                  have n1_ := Aside0.mk (Kd.R_drew HO_21.out)
                                  have n2_ := Aside0.mk (blk_drew BK332.out)
                                  have n3_ := Aside0.mk (blk_drew BK333.out)
                                  have n4_ := Aside0.mk (blk_drew BK343.out)
                                  have n5_ := Aside0.mk (blk_drew BK347.out)
                                  have n6_ := Aside0.mk (below_drew1 HB.out)
                                  clear HO_18
                                  clear HO_21
                                  clear BK332
                                  clear BK333
                                  clear BK343
                                  clear BK347
                                  clear HB
                                  have HO_18 := n0_
                                  have HO_21 := n1_
                                  have BK332 := n2_
                                  have BK333 := n3_
                                  have BK343 := n4_
                                  have BK347 := n5_
                                  have HB := n6_
                                  clear n0_ n1_ n2_ n3_ n4_ n5_ n6_
                                  refine start_ (n := 45) (S := fun w' => w'.cell? ⟨gb343, 0, none⟩ = some (.bool t340) ∧ w'.cell? ⟨gb343, 1, none⟩ = some (.string t341) ∧ w'.cell? ⟨gb347, 0, none⟩ = some (.bool t344) ∧ w'.cell? ⟨gb347, 1, none⟩ = some (.string t345) ∧ w'.cell? ⟨gb332, 0, none⟩ = some (.bool a1_0) ∧ w'.cell? ⟨gb332, 1, none⟩ = some (.string a1_1) ∧ w'.cell? ⟨gb333, 0, none⟩ = some (.bool a2_0) ∧ w'.cell? ⟨gb333, 1, none⟩ = some (.string a2_1)) (ds := []) #[false, false, false, false, false, false, false, false, false, false, false, false, false, false, false, false, false, false, false, false, false, false, false, false, false, false, false, false, false, false, false, false, false, false, false, false, false, false, false, false, false, false, false, false, false] (by kernel_rfl) rfl rfl ⟨(blk_cell BK343.out 0).trans rfl, (blk_cell BK343.out 1).trans rfl, (blk_cell BK347.out 0).trans rfl, (blk_cell BK347.out 1).trans rfl, (blk_cell BK332.out 0).trans rfl, (blk_cell BK332.out 1).trans rfl, (blk_cell BK333.out 0).trans rfl, (blk_cell BK333.out 1).trans rfl⟩ (fun hHeld => ?_); refine with_tabW sprlaw16_EtagReads.tab19 sprlaw16_EtagReads.bits19 (fun HT_ HW_ => ?_)
                                  generalize wr.drew = w96 at HO_18 HO_21 BK332 BK333 BK343 BK347 HB hHeld ⊢
                                  refine one_ (i := 0) (N := some 120) #[true, false, false, false, false, false, false, false, false, false, false, false, false, false, false, false, false, false, false, false, false, false, false, false, false, false, false, false, false, false, false, false, false, false, false, false, false, false, false, false, false, false, false, false, false] rfl rfl (one_of HT_.out (by kernel_rfl)) (by decide) (fun K hK => ?_)
                                  refine goes_ Tryd.func7 (by kernel_rfl) rfl #[] (by rfl) rfl rfl (by (try simp only [List.map_toArray, List.map_cons, List.map_nil]); first | done | rfl | (simp only [List.length_drop, List.length_take]; rfl)) ?_
                                  with_reducible refine (sprlaw16_first.calls k3  true _ A79.out).mono ?_
                                  rintro e w97 ⟨rfl, hb⟩
                                  refine ⟨_, rfl, ?_⟩
                                  have n0_ := Aside0.mk (Kd.R_below (by (with_reducible repeat (first | apply Kd.R_alloc | apply Kd.R_drewN | apply Kd.R_drew)); exact HO_18.out) hb)
                                  have n1_ := Aside0.mk (Kd.R_below (by (with_reducible repeat (first | apply Kd.R_alloc | apply Kd.R_drewN | apply Kd.R_drew)); exact HO_21.out) hb)
                                  have n2_ := Aside0.mk (blk_below (g := gb332) (o := .cells #[.bool a1_0, .string a1_1] 23 (0, 0)) (by (with_reducible repeat (first | refine blk_drewN ?_ _ | refine blk_drew ?_ | refine blk_alloc ?_ _)); exact BK332.out) hb)
                                  have n3_ := Aside0.mk (blk_below (g := gb333) (o := .cells #[.bool a2_0, .string a2_1] 23 (0, 0)) (by (with_reducible repeat (first | refine blk_drewN ?_ _ | refine blk_drew ?_ | refine blk_alloc ?_ _)); exact BK333.out) hb)
                                  have n4_ := Aside0.mk (blk_below (g := gb343) (o := .cells #[.bool t340, .string t341] 23 (0, 0)) (by (with_reducible repeat (first | refine blk_drewN ?_ _ | refine blk_drew ?_ | refine blk_alloc ?_ _)); exact BK343.out) hb)
                                  have n5_ := Aside0.mk (blk_below (g := gb347) (o := .cells #[.bool t344, .string t345] 38 (0, 0)) (by (with_reducible repeat (first | refine blk_drewN ?_ _ | refine blk_drew ?_ | refine blk_alloc ?_ _)); exact BK347.out) hb)
                                  have n6_ := Aside0.mk (below_step (by repeat (first | (with_reducible first | exact HB.out | apply below_alloc | apply pw_below_drewN | apply below_drew1 | refine below_set ?_ GE332.out | refine below_set ?_ GE333.out | refine below_set ?_ GE343.out | refine below_set ?_ GE347.out) | exact HB.out)) hb)
                                  clear HO_18
                                  clear HO_21
                                  clear BK332
                                  clear BK333
                                  clear BK343
                                  clear BK347
                                  clear HB
                                  have HO_18 := n0_
                                  have HO_21 := n1_
                                  have BK332 := n2_
                                  have BK333 := n3_
                                  have BK343 := n4_
                                  have BK347 := n5_
                                  have HB := n6_
                                  clear n0_ n1_ n2_ n3_ n4_ n5_ n6_
                                  (try clear hb)
                                  (try clear hb2)
                                  (try clear hk)
                                  (try clear hi)
                                  refine hK.out _ _ ⟨(blk_cell BK343.out 0).trans rfl, (blk_cell BK343.out 1).trans rfl, (blk_cell BK347.out 0).trans rfl, (blk_cell BK347.out 1).trans rfl, (blk_cell BK332.out 0).trans rfl, (blk_cell BK332.out 1).trans rfl, (blk_cell BK333.out 0).trans rfl, (blk_cell BK333.out 1).trans rfl⟩ (fun hHeld => ?_)
                                  clear hK K
                                  refine norm_ (a' := ?_) ?_ ?_
                                  rotate_left
                                  · show Act.put _ (some 120) _ = _
                                    simp only [Act.put, List.setIfInBounds_toArray, List.set_cons_zero, List.set_cons_succ, i64_w, i32_w]
                                    rfl
                                  refine pure_ (i := 1) (N := some 121) (v := ?_) (a' := ?_) #[true, true, false, false, false, false, false, false, false, false, false, false, false, false, false, false, false, false, false, false, false, false, false, false, false, false, false, false, false, false, false, false, false, false, false, false, false, false, false, false, false, false, false, false, false] rfl rfl (any_of HT_.out (by kernel_rfl)) (fun _ _ _ h => h) (Or.inl ⟨by rfl, ?_⟩) ?_ ?_
                                  rotate_left
                                  · intro w'
                                    go_simp
                                    with_reducible rfl
                                  rotate_left
                                  · simp only [Act.put, List.setIfInBounds_toArray, List.set_cons_zero, List.set_cons_succ, i64_w, i32_w]
                                    rfl
                                  refine take_ (i := 2) (N := some 122) (v := ?_) (a' := ?_) #[true, true, true, false, false, false, false, false, false, false, false, false, false, false, false, false, false, false, false, false, false, false, false, false, false, false, false, false, false, false, false, false, false, false, false, false, false, false, false, false, false, false, false, false, false] rfl rfl (take_ofW HT_.out HW_.out (by kernel_rfl)) (fun _ _ _ h => h) (Or.inl ⟨by rfl, ?_⟩) hHeld ?_ ?_
                                  rotate_left
                                  · rintro w' ⟨s0, s1, s2, s3, s4, s5, s6, s7⟩
                                    go_simp
                                    with_reducible rfl
                                  rotate_left
                                  · simp only [Act.put, List.setIfInBounds_toArray, List.set_cons_zero, List.set_cons_succ, i64_w, i32_w]
                                    rfl
                                  refine take_ (i := 4) (N := some 124) (v := ?_) (a' := ?_) #[true, true, true, false, true, false, false, false, false, false, false, false, false, false, false, false, false, false, false, false, false, false, false, false, false, false, false, false, false, false, false, false, false, false, false, false, false, false, false, false, false, false, false, false, false] rfl rfl (take_ofW HT_.out HW_.out (by kernel_rfl)) (fun _ _ _ h => h) (Or.inl ⟨by rfl, ?_⟩) hHeld ?_ ?_
                                  rotate_left
                                  · rintro w' ⟨s0, s1, s2, s3, s4, s5, s6, s7⟩
                                    go_simp
                                    with_reducible rfl
                                  rotate_left
                                  · simp only [Act.put, List.setIfInBounds_toArray, List.set_cons_zero, List.set_cons_succ, i64_w, i32_w]
                                    rfl
                                  refine one_ (i := 3) (N := some 123) #[true, true, true, true, true, false, false, false, false, false, false, false, false, false, false, false, false, false, false, false, false, false, false, false, false, false, false, false, false, false, false, false, false, false, false, false, false, false, false, false, false, false, false, false, false] rfl rfl (one_of HT_.out (by kernel_rfl)) (by decide) (fun K hK => ?_)
                                  refine goes_ Tryd.func17 (by kernel_rfl) rfl #[.agg #[.bool t340, .string t341]] (by rfl) rfl rfl (by (try simp only [List.map_toArray, List.map_cons, List.map_nil]); first | done | rfl | (simp only [List.length_drop, List.length_take]; rfl)) ?_
                                  with_reducible refine (sprlaw16_Plain.calls t340 t341 t370 t371 _ A81.out).mono ?_
                                  rintro e w98 ⟨rfl, hb⟩
                                  refine ⟨_, rfl, ?_⟩
                                  have n0_ := Aside0.mk (Kd.R_below (by (with_reducible repeat (first | apply Kd.R_alloc | apply Kd.R_drewN | apply Kd.R_drew)); exact HO_18.out) hb)
                                  have n1_ := Aside0.mk (Kd.R_below (by (with_reducible repeat (first | apply Kd.R_alloc | apply Kd.R_drewN | apply Kd.R_drew)); exact HO_21.out) hb)
                                  have n2_ := Aside0.mk (blk_below (g := gb332) (o := .cells #[.bool a1_0, .string a1_1] 23 (0, 0)) (by (with_reducible repeat (first | refine blk_drewN ?_ _ | refine blk_drew ?_ | refine blk_alloc ?_ _)); exact BK332.out) hb)
                                  have n3_ := Aside0.mk (blk_below (g := gb333) (o := .cells #[.bool a2_0, .string a2_1] 23 (0, 0)) (by (with_reducible repeat (first | refine blk_drewN ?_ _ | refine blk_drew ?_ | refine blk_alloc ?_ _)); exact BK333.out) hb)
                                  have n4_ := Aside0.mk (blk_below (g := gb343) (o := .cells #[.bool t340, .string t341] 23 (0, 0)) (by (with_reducible repeat (first | refine blk_drewN ?_ _ | refine blk_drew ?_ | refine blk_alloc ?_ _)); exact BK343.out) hb)
                                  have n5_ := Aside0.mk (blk_below (g := gb347) (o := .cells #[.bool t344, .string t345] 38 (0, 0)) (by (with_reducible repeat (first | refine blk_drewN ?_ _ | refine blk_drew ?_ | refine blk_alloc ?_ _)); exact BK347.out) hb)
                                  have n6_ := Aside0.mk (below_step (by repeat (first | (with_reducible first | exact HB.out | apply below_alloc | apply pw_below_drewN | apply below_drew1 | refine below_set ?_ GE332.out | refine below_set ?_ GE333.out | refine below_set ?_ GE343.out | refine below_set ?_ GE347.out) | exact HB.out)) hb)
                                  clear HO_18
                                  clear HO_21
                                  clear BK332
                                  clear BK333
                                  clear BK343
                                  clear BK347
                                  clear HB
                                  have HO_18 := n0_
                                  have HO_21 := n1_
                                  have BK332 := n2_
                                  have BK333 := n3_
                                  have BK343 := n4_
                                  have BK347 := n5_
                                  have HB := n6_
                                  clear n0_ n1_ n2_ n3_ n4_ n5_ n6_
                                  (try clear hb)
                                  (try clear hb2)
                                  (try clear hk)
                                  (try clear hi)
                                  refine hK.out _ _ ⟨(blk_cell BK343.out 0).trans rfl, (blk_cell BK343.out 1).trans rfl, (blk_cell BK347.out 0).trans rfl, (blk_cell BK347.out 1).trans rfl, (blk_cell BK332.out 0).trans rfl, (blk_cell BK332.out 1).trans rfl, (blk_cell BK333.out 0).trans rfl, (blk_cell BK333.out 1).trans rfl⟩ (fun hHeld => ?_)
                                  clear hK K
                                  refine norm_ (a' := ?_) ?_ ?_
                                  rotate_left
                                  · show Act.put _ (some 123) _ = _
                                    simp only [Act.put, List.setIfInBounds_toArray, List.set_cons_zero, List.set_cons_succ, i64_w, i32_w]
                                    rfl
                                  refine pure_ (i := 5) (N := some 125) (v := ?_) (a' := ?_) #[true, true, true, true, true, true, false, false, false, false, false, false, false, false, false, false, false, false, false, false, false, false, false, false, false, false, false, false, false, false, false, false, false, false, false, false, false, false, false, false, false, false, false, false, false] rfl rfl (any_of HT_.out (by kernel_rfl)) (fun _ _ _ h => h) (Or.inl ⟨by rfl, ?_⟩) ?_ ?_
                                  rotate_left
                                  · intro w'
                                    go_simp
                                    with_reducible rfl
                                  rotate_left
                                  · simp only [Act.put, List.setIfInBounds_toArray, List.set_cons_zero, List.set_cons_succ, i64_w, i32_w]
                                    rfl
                                  refine pure_ (i := 6) (N := some 126) (v := ?_) (a' := ?_) #[true, true, true, true, true, true, true, false, false, false, false, false, false, false, false, false, false, false, false, false, false, false, false, false, false, false, false, false, false, false, false, false, false, false, false, false, false, false, false, false, false, false, false, false, false] rfl rfl (any_of HT_.out (by kernel_rfl)) (fun _ _ _ h => h) (Or.inl ⟨by rfl, ?_⟩) ?_ ?_
                                  rotate_left
                                  · intro w'
                                    go_simp
                                    with_reducible rfl
                                  rotate_left
                                  · simp only [Act.put, List.setIfInBounds_toArray, List.set_cons_zero, List.set_cons_succ, i64_w, i32_w]
                                    rfl
                                  refine pure_ (i := 7) (N := some 127) (v := ?_) (a' := ?_) #[true, true, true, true, true, true, true, true, false, false, false, false, false, false, false, false, false, false, false, false, false, false, false, false, false, false, false, false, false, false, false, false, false, false, false, false, false, false, false, false, false, false, false, false, false] rfl rfl (any_of HT_.out (by kernel_rfl)) (fun _ _ _ h => h) (Or.inl ⟨by rfl, ?_⟩) ?_ ?_
                                  rotate_left
                                  · intro w'
                                    go_simp
                                    with_reducible rfl
                                  rotate_left
                                  · simp only [Act.put, List.setIfInBounds_toArray, List.set_cons_zero, List.set_cons_succ, i64_w, i32_w]
                                    rfl
                                  refine pure_ (i := 8) (N := some 128) (v := ?_) (a' := ?_) #[true, true, true, true, true, true, true, true, true, false, false, false, false, false, false, false, false, false, false, false, false, false, false, false, false, false, false, false, false, false, false, false, false, false, false, false, false, false, false, false, false, false, false, false, false] rfl rfl (any_of HT_.out (by kernel_rfl)) (fun _ _ _ h => h) (Or.inl ⟨by rfl, ?_⟩) ?_ ?_
                                  rotate_left
                                  · intro w'
                                    go_simp
                                    with_reducible rfl
                                  rotate_left
                                  · simp only [Act.put, List.setIfInBounds_toArray, List.set_cons_zero, List.set_cons_succ, i64_w, i32_w]
                                    rfl
                                  refine pure_ (i := 9) (N := some 129) (v := ?_) (a' := ?_) #[true, true, true, true, true, true, true, true, true, true, false, false, false, false, false, false, false, false, false, false, false, false, false, false, false, false, false, false, false, false, false, false, false, false, false, false, false, false, false, false, false, false, false, false, false] rfl rfl (any_of HT_.out (by kernel_rfl)) (fun _ _ _ h => h) (Or.inl ⟨by rfl, ?_⟩) ?_ ?_
                                  rotate_left
                                  · intro w'
                                    go_simp
                                    with_reducible rfl
                                  rotate_left
                                  · simp only [Act.put, List.setIfInBounds_toArray, List.set_cons_zero, List.set_cons_succ, i64_w, i32_w]
                                    rfl
                                  refine pure_ (i := 10) (N := some 130) (v := ?_) (a' := ?_) #[true, true, true, true, true, true, true, true, true, true, true, false, false, false, false, false, false, false, false, false, false, false, false, false, false, false, false, false, false, false, false, false, false, false, false, false, false, false, false, false, false, false, false, false, false] rfl rfl (any_of HT_.out (by kernel_rfl)) (fun _ _ _ h => h) (Or.inl ⟨by rfl, ?_⟩) ?_ ?_
                                  rotate_left
                                  · intro w'
                                    go_simp
                                    with_reducible rfl
                                  rotate_left
                                  · simp only [Act.put, List.setIfInBounds_toArray, List.set_cons_zero, List.set_cons_succ, i64_w, i32_w]
                                    rfl
                                  refine pure_ (i := 11) (N := some 131) (v := ?_) (a' := ?_) #[true, true, true, true, true, true, true, true, true, true, true, true, false, false, false, false, false, false, false, false, false, false, false, false, false, false, false, false, false, false, false, false, false, false, false, false, false, false, false, false, false, false, false, false, false] rfl rfl (any_of HT_.out (by kernel_rfl)) (fun _ _ _ h => h) (Or.inl ⟨by rfl, ?_⟩) ?_ ?_
                                  rotate_left
                                  · intro w'
                                    go_simp
                                    with_reducible rfl
                                  rotate_left
                                  · simp only [Act.put, List.setIfInBounds_toArray, List.set_cons_zero, List.set_cons_succ, i64_w, i32_w]
                                    rfl
                                  refine pure_ (i := 12) (N := some 132) (v := ?_) (a' := ?_) #[true, true, true, true, true, true, true, true, true, true, true, true, true, false, false, false, false, false, false, false, false, false, false, false, false, false, false, false, false, false, false, false, false, false, false, false, false, false, false, false, false, false, false, false, false] rfl rfl (any_of HT_.out (by kernel_rfl)) (fun _ _ _ h => h) (Or.inl ⟨by rfl, ?_⟩) ?_ ?_
                                  rotate_left
                                  · intro w'
                                    go_simp
                                    with_reducible rfl
                                  rotate_left
                                  · simp only [Act.put, List.setIfInBounds_toArray, List.set_cons_zero, List.set_cons_succ, i64_w, i32_w]
                                    rfl
                                  refine pure_ (i := 13) (N := some 133) (v := ?_) (a' := ?_) #[true, true, true, true, true, true, true, true, true, true, true, true, true, true, false, false, false, false, false, false, false, false, false, false, false, false, false, false, false, false, false, false, false, false, false, false, false, false, false, false, false, false, false, false, false] rfl rfl (any_of HT_.out (by kernel_rfl)) (fun _ _ _ h => h) (Or.inl ⟨by rfl, ?_⟩) ?_ ?_
                                  rotate_left
                                  · intro w'
                                    go_simp
                                    with_reducible rfl
                                  rotate_left
                                  · simp only [Act.put, List.setIfInBounds_toArray, List.set_cons_zero, List.set_cons_succ, i64_w, i32_w]
                                    rfl
                                  refine pure_ (i := 14) (N := some 134) (v := ?_) (a' := ?_) #[true, true, true, true, true, true, true, true, true, true, true, true, true, true, true, false, false, false, false, false, false, false, false, false, false, false, false, false, false, false, false, false, false, false, false, false, false, false, false, false, false, false, false, false, false] rfl rfl (any_of HT_.out (by kernel_rfl)) (fun _ _ _ h => h) (Or.inl ⟨by rfl, ?_⟩) ?_ ?_
                                  rotate_left
                                  · intro w'
                                    go_simp
                                    with_reducible rfl
                                  rotate_left
                                  · simp only [Act.put, List.setIfInBounds_toArray, List.set_cons_zero, List.set_cons_succ, i64_w, i32_w]
                                    rfl
                                  refine pure_ (i := 15) (N := some 135) (v := ?_) (a' := ?_) #[true, true, true, true, true, true, true, true, true, true, true, true, true, true, true, true, false, false, false, false, false, false, false, false, false, false, false, false, false, false, false, false, false, false, false, false, false, false, false, false, false, false, false, false, false] rfl rfl (any_of HT_.out (by kernel_rfl)) (fun _ _ _ h => h) (Or.inl ⟨by rfl, ?_⟩) ?_ ?_
                                  rotate_left
                                  · intro w'
                                    go_simp
                                    with_reducible rfl
                                  rotate_left
                                  · simp only [Act.put, List.setIfInBounds_toArray, List.set_cons_zero, List.set_cons_succ, i64_w, i32_w]
                                    rfl
                                  refine pure_ (i := 16) (N := some 136) (v := ?_) (a' := ?_) #[true, true, true, true, true, true, true, true, true, true, true, true, true, true, true, true, true, false, false, false, false, false, false, false, false, false, false, false, false, false, false, false, false, false, false, false, false, false, false, false, false, false, false, false, false] rfl rfl (any_of HT_.out (by kernel_rfl)) (fun _ _ _ h => h) (Or.inl ⟨by rfl, ?_⟩) ?_ ?_
                                  rotate_left
                                  · intro w'
                                    go_simp
                                    with_reducible rfl
                                  rotate_left
                                  · simp only [Act.put, List.setIfInBounds_toArray, List.set_cons_zero, List.set_cons_succ, i64_w, i32_w]
                                    rfl
                                  refine pure_ (i := 17) (N := some 137) (v := ?_) (a' := ?_) #[true, true, true, true, true, true, true, true, true, true, true, true, true, true, true, true, true, true, false, false, false, false, false, false, false, false, false, false, false, false, false, false, false, false, false, false, false, false, false, false, false, false, false, false, false] rfl rfl (any_of HT_.out (by kernel_rfl)) (fun _ _ _ h => h) (Or.inl ⟨by rfl, ?_⟩) ?_ ?_
                                  rotate_left
                                  · intro w'
                                    go_simp
                                    with_reducible rfl
                                  rotate_left
                                  · simp only [Act.put, List.setIfInBounds_toArray, List.set_cons_zero, List.set_cons_succ, i64_w, i32_w]
                                    rfl
                                  refine pure_ (i := 18) (N := some 138) (v := ?_) (a' := ?_) #[true, true, true, true, true, true, true, true, true, true, true, true, true, true, true, true, true, true, true, false, false, false, false, false, false, false, false, false, false, false, false, false, false, false, false, false, false, false, false, false, false, false, false, false, false] rfl rfl (any_of HT_.out (by kernel_rfl)) (fun _ _ _ h => h) (Or.inl ⟨by rfl, ?_⟩) ?_ ?_
                                  rotate_left
                                  · intro w'
                                    go_simp
                                    with_reducible rfl
                                  rotate_left
                                  · simp only [Act.put, List.setIfInBounds_toArray, List.set_cons_zero, List.set_cons_succ, i64_w, i32_w]
                                    rfl
                                  refine pure_ (i := 19) (N := some 139) (v := ?_) (a' := ?_) #[true, true, true, true, true, true, true, true, true, true, true, true, true, true, true, true, true, true, true, true, false, false, false, false, false, false, false, false, false, false, false, false, false, false, false, false, false, false, false, false, false, false, false, false, false] rfl rfl (any_of HT_.out (by kernel_rfl)) (fun _ _ _ h => h) (Or.inl ⟨by rfl, ?_⟩) ?_ ?_
                                  rotate_left
                                  · intro w'
                                    go_simp
                                    with_reducible rfl
                                  rotate_left
                                  · simp only [Act.put, List.setIfInBounds_toArray, List.set_cons_zero, List.set_cons_succ, i64_w, i32_w]
                                    rfl
                                  refine pure_ (i := 20) (N := some 140) (v := ?_) (a' := ?_) #[true, true, true, true, true, true, true, true, true, true, true, true, true, true, true, true, true, true, true, true, true, false, false, false, false, false, false, false, false, false, false, false, false, false, false, false, false, false, false, false, false, false, false, false, false] rfl rfl (any_of HT_.out (by kernel_rfl)) (fun _ _ _ h => h) (Or.inl ⟨by rfl, ?_⟩) ?_ ?_
                                  rotate_left
                                  · intro w'
                                    go_simp
                                    with_reducible rfl
                                  rotate_left
                                  · simp only [Act.put, List.setIfInBounds_toArray, List.set_cons_zero, List.set_cons_succ, i64_w, i32_w]
                                    rfl
                                  refine pure_ (i := 21) (N := some 141) (v := ?_) (a' := ?_) #[true, true, true, true, true, true, true, true, true, true, true, true, true, true, true, true, true, true, true, true, true, true, false, false, false, false, false, false, false, false, false, false, false, false, false, false, false, false, false, false, false, false, false, false, false] rfl rfl (any_of HT_.out (by kernel_rfl)) (fun _ _ _ h => h) (Or.inl ⟨by rfl, ?_⟩) ?_ ?_
                                  rotate_left
                                  · intro w'
                                    go_simp
                                    with_reducible rfl
                                  rotate_left
                                  · simp only [Act.put, List.setIfInBounds_toArray, List.set_cons_zero, List.set_cons_succ, i64_w, i32_w]
                                    rfl
                                  refine pure_ (i := 22) (N := some 142) (v := ?_) (a' := ?_) #[true, true, true, true, true, true, true, true, true, true, true, true, true, true, true, true, true, true, true, true, true, true, true, false, false, false, false, false, false, false, false, false, false, false, false, false, false, false, false, false, false, false, false, false, false] rfl rfl (any_of HT_.out (by kernel_rfl)) (fun _ _ _ h => h) (Or.inl ⟨by rfl, ?_⟩) ?_ ?_
                                  rotate_left
                                  · intro w'
                                    go_simp
                                    with_reducible rfl
                                  rotate_left
                                  · simp only [Act.put, List.setIfInBounds_toArray, List.set_cons_zero, List.set_cons_succ, i64_w, i32_w]
                                    rfl
                                  refine take_ (i := 23) (N := some 143) (v := ?_) (a' := ?_) #[true, true, true, true, true, true, true, true, true, true, true, true, true, true, true, true, true, true, true, true, true, true, true, true, false, false, false, false, false, false, false, false, false, false, false, false, false, false, false, false, false, false, false, false, false] rfl rfl (take_ofW HT_.out HW_.out (by kernel_rfl)) (fun _ _ _ h => h) (Or.inl ⟨by rfl, ?_⟩) hHeld ?_ ?_
                                  rotate_left
                                  · rintro w' ⟨s0, s1, s2, s3, s4, s5, s6, s7⟩
                                    go_simp
                                    with_reducible rfl
                                  rotate_left
                                  · simp only [Act.put, List.setIfInBounds_toArray, List.set_cons_zero, List.set_cons_succ, i64_w, i32_w]
                                    rfl
                                  refine take_ (i := 24) (N := some 144) (v := ?_) (a' := ?_) #[true, true, true, true, true, true, true, true, true, true, true, true, true, true, true, true, true, true, true, true, true, true, true, true, true, false, false, false, false, false, false, false, false, false, false, false, false, false, false, false, false, false, false, false, false] rfl rfl (take_ofW HT_.out HW_.out (by kernel_rfl)) (fun _ _ _ h => h) (Or.inl ⟨by rfl, ?_⟩) hHeld ?_ ?_
                                  rotate_left
                                  · rintro w' ⟨s0, s1, s2, s3, s4, s5, s6, s7⟩
                                    go_simp
                                    with_reducible rfl
                                  rotate_left
                                  · simp only [Act.put, List.setIfInBounds_toArray, List.set_cons_zero, List.set_cons_succ, i64_w, i32_w]
                                    rfl
                                  refine take_ (i := 26) (N := some 146) (v := ?_) (a' := ?_) #[true, true, true, true, true, true, true, true, true, true, true, true, true, true, true, true, true, true, true, true, true, true, true, true, true, false, true, false, false, false, false, false, false, false, false, false, false, false, false, false, false, false, false, false, false] rfl rfl (take_ofW HT_.out HW_.out (by kernel_rfl)) (fun _ _ _ h => h) (Or.inl ⟨by rfl, ?_⟩) hHeld ?_ ?_
                                  rotate_left
                                  · rintro w' ⟨s0, s1, s2, s3, s4, s5, s6, s7⟩
                                    go_simp
                                    with_reducible rfl
                                  rotate_left
                                  · simp only [Act.put, List.setIfInBounds_toArray, List.set_cons_zero, List.set_cons_succ, i64_w, i32_w]
                                    rfl
                                  refine take_ (i := 28) (N := some 148) (v := ?_) (a' := ?_) #[true, true, true, true, true, true, true, true, true, true, true, true, true, true, true, true, true, true, true, true, true, true, true, true, true, false, true, false, true, false, false, false, false, false, false, false, false, false, false, false, false, false, false, false, false] rfl rfl (take_ofW HT_.out HW_.out (by kernel_rfl)) (fun _ _ _ h => h) (Or.inl ⟨by rfl, ?_⟩) hHeld ?_ ?_
                                  rotate_left
                                  · rintro w' ⟨s0, s1, s2, s3, s4, s5, s6, s7⟩
                                    go_simp
                                    with_reducible rfl
                                  rotate_left
                                  · simp only [Act.put, List.setIfInBounds_toArray, List.set_cons_zero, List.set_cons_succ, i64_w, i32_w]
                                    rfl
                                  refine one_ (i := 25) (N := some 145) #[true, true, true, true, true, true, true, true, true, true, true, true, true, true, true, true, true, true, true, true, true, true, true, true, true, true, true, false, true, false, false, false, false, false, false, false, false, false, false, false, false, false, false, false, false] rfl rfl (one_of HT_.out (by kernel_rfl)) (by decide) (fun K hK => ?_)
                                  refine goes_ Tryd.func8 (by kernel_rfl) rfl #[.agg #[.bool a1_0, .string a1_1], .agg #[.bool a2_0, .string a2_1]] (by rfl) rfl rfl (by (try simp only [List.map_toArray, List.map_cons, List.map_nil]); first | done | rfl | (simp only [List.length_drop, List.length_take]; rfl)) ?_
                                  with_reducible refine (etag_Strong.calls a1_0 a1_1 a2_0 a2_1 t372 _ A86.out).mono ?_
                                  rintro e w99 ⟨rfl, hb⟩
                                  refine ⟨_, rfl, ?_⟩
                                  have n0_ := Aside0.mk (Kd.R_below (by (with_reducible repeat (first | apply Kd.R_alloc | apply Kd.R_drewN | apply Kd.R_drew)); exact HO_18.out) hb)
                                  have n1_ := Aside0.mk (Kd.R_below (by (with_reducible repeat (first | apply Kd.R_alloc | apply Kd.R_drewN | apply Kd.R_drew)); exact HO_21.out) hb)
                                  have n2_ := Aside0.mk (blk_below (g := gb332) (o := .cells #[.bool a1_0, .string a1_1] 23 (0, 0)) (by (with_reducible repeat (first | refine blk_drewN ?_ _ | refine blk_drew ?_ | refine blk_alloc ?_ _)); exact BK332.out) hb)
                                  have n3_ := Aside0.mk (blk_below (g := gb333) (o := .cells #[.bool a2_0, .string a2_1] 23 (0, 0)) (by (with_reducible repeat (first | refine blk_drewN ?_ _ | refine blk_drew ?_ | refine blk_alloc ?_ _)); exact BK333.out) hb)
                                  have n4_ := Aside0.mk (blk_below (g := gb343) (o := .cells #[.bool t340, .string t341] 23 (0, 0)) (by (with_reducible repeat (first | refine blk_drewN ?_ _ | refine blk_drew ?_ | refine blk_alloc ?_ _)); exact BK343.out) hb)
                                  have n5_ := Aside0.mk (blk_below (g := gb347) (o := .cells #[.bool t344, .string t345] 38 (0, 0)) (by (with_reducible repeat (first | refine blk_drewN ?_ _ | refine blk_drew ?_ | refine blk_alloc ?_ _)); exact BK347.out) hb)
                                  have n6_ := Aside0.mk (below_step (by repeat (first | (with_reducible first | exact HB.out | apply below_alloc | apply pw_below_drewN | apply below_drew1 | refine below_set ?_ GE332.out | refine below_set ?_ GE333.out | refine below_set ?_ GE343.out | refine below_set ?_ GE347.out) | exact HB.out)) hb)
                                  clear HO_18
                                  clear HO_21
                                  clear BK332
                                  clear BK333
                                  clear BK343
                                  clear BK347
                                  clear HB
                                  have HO_18 := n0_
                                  have HO_21 := n1_
                                  have BK332 := n2_
                                  have BK333 := n3_
                                  have BK343 := n4_
                                  have BK347 := n5_
                                  have HB := n6_
                                  clear n0_ n1_ n2_ n3_ n4_ n5_ n6_
                                  (try clear hb)
                                  (try clear hb2)
                                  (try clear hk)
                                  (try clear hi)
                                  refine hK.out _ _ ⟨(blk_cell BK343.out 0).trans rfl, (blk_cell BK343.out 1).trans rfl, (blk_cell BK347.out 0).trans rfl, (blk_cell BK347.out 1).trans rfl, (blk_cell BK332.out 0).trans rfl, (blk_cell BK332.out 1).trans rfl, (blk_cell BK333.out 0).trans rfl, (blk_cell BK333.out 1).trans rfl⟩ (fun hHeld => ?_)
                                  clear hK K
                                  refine norm_ (a' := ?_) ?_ ?_
                                  rotate_left
                                  · show Act.put _ (some 145) _ = _
                                    simp only [Act.put, List.setIfInBounds_toArray, List.set_cons_zero, List.set_cons_succ, i64_w, i32_w]
                                    rfl
                                  refine one_ (i := 27) (N := some 147) #[true, true, true, true, true, true, true, true, true, true, true, true, true, true, true, true, true, true, true, true, true, true, true, true, true, true, true, true, true, false, false, false, false, false, false, false, false, false, false, false, false, false, false, false, false] rfl rfl (one_of HT_.out (by kernel_rfl)) (by decide) (fun K hK => ?_)
                                  refine goes_ Tryd.func17 (by kernel_rfl) rfl #[.agg #[.bool a1_0, .string a1_1]] (by rfl) rfl rfl (by (try simp only [List.map_toArray, List.map_cons, List.map_nil]); first | done | rfl | (simp only [List.length_drop, List.length_take]; rfl)) ?_
                                  with_reducible refine (sprlaw16_Plain.calls a1_0 a1_1 t373 t374 _ A87.out).mono ?_
                                  rintro e w100 ⟨rfl, hb⟩
                                  refine ⟨_, rfl, ?_⟩
                                  have n0_ := Aside0.mk (Kd.R_below (by (with_reducible repeat (first | apply Kd.R_alloc | apply Kd.R_drewN | apply Kd.R_drew)); exact HO_18.out) hb)
                                  have n1_ := Aside0.mk (Kd.R_below (by (with_reducible repeat (first | apply Kd.R_alloc | apply Kd.R_drewN | apply Kd.R_drew)); exact HO_21.out) hb)
                                  have n2_ := Aside0.mk (blk_below (g := gb332) (o := .cells #[.bool a1_0, .string a1_1] 23 (0, 0)) (by (with_reducible repeat (first | refine blk_drewN ?_ _ | refine blk_drew ?_ | refine blk_alloc ?_ _)); exact BK332.out) hb)
                                  have n3_ := Aside0.mk (blk_below (g := gb333) (o := .cells #[.bool a2_0, .string a2_1] 23 (0, 0)) (by (with_reducible repeat (first | refine blk_drewN ?_ _ | refine blk_drew ?_ | refine blk_alloc ?_ _)); exact BK333.out) hb)
                                  have n4_ := Aside0.mk (blk_below (g := gb343) (o := .cells #[.bool t340, .string t341] 23 (0, 0)) (by (with_reducible repeat (first | refine blk_drewN ?_ _ | refine blk_drew ?_ | refine blk_alloc ?_ _)); exact BK343.out) hb)
                                  have n5_ := Aside0.mk (blk_below (g := gb347) (o := .cells #[.bool t344, .string t345] 38 (0, 0)) (by (with_reducible repeat (first | refine blk_drewN ?_ _ | refine blk_drew ?_ | refine blk_alloc ?_ _)); exact BK347.out) hb)
                                  have n6_ := Aside0.mk (below_step (by repeat (first | (with_reducible first | exact HB.out | apply below_alloc | apply pw_below_drewN | apply below_drew1 | refine below_set ?_ GE332.out | refine below_set ?_ GE333.out | refine below_set ?_ GE343.out | refine below_set ?_ GE347.out) | exact HB.out)) hb)
                                  clear HO_18
                                  clear HO_21
                                  clear BK332
                                  clear BK333
                                  clear BK343
                                  clear BK347
                                  clear HB
                                  have HO_18 := n0_
                                  have HO_21 := n1_
                                  have BK332 := n2_
                                  have BK333 := n3_
                                  have BK343 := n4_
                                  have BK347 := n5_
                                  have HB := n6_
                                  clear n0_ n1_ n2_ n3_ n4_ n5_ n6_
                                  (try clear hb)
                                  (try clear hb2)
                                  (try clear hk)
                                  (try clear hi)
                                  refine hK.out _ _ ⟨(blk_cell BK343.out 0).trans rfl, (blk_cell BK343.out 1).trans rfl, (blk_cell BK347.out 0).trans rfl, (blk_cell BK347.out 1).trans rfl, (blk_cell BK332.out 0).trans rfl, (blk_cell BK332.out 1).trans rfl, (blk_cell BK333.out 0).trans rfl, (blk_cell BK333.out 1).trans rfl⟩ (fun hHeld => ?_)
                                  clear hK K
                                  refine norm_ (a' := ?_) ?_ ?_
                                  rotate_left
                                  · show Act.put _ (some 147) _ = _
                                    simp only [Act.put, List.setIfInBounds_toArray, List.set_cons_zero, List.set_cons_succ, i64_w, i32_w]
                                    rfl
                                  refine one_ (i := 29) (N := some 149) #[true, true, true, true, true, true, true, true, true, true, true, true, true, true, true, true, true, true, true, true, true, true, true, true, true, true, true, true, true, true, false, false, false, false, false, false, false, false, false, false, false, false, false, false, false] rfl rfl (one_of HT_.out (by kernel_rfl)) (by decide) (fun K hK => ?_)
                                  refine goes_ Tryd.func17 (by kernel_rfl) rfl #[.agg #[.bool a2_0, .string a2_1]] (by rfl) rfl rfl (by (try simp only [List.map_toArray, List.map_cons, List.map_nil]); first | done | rfl | (simp only [List.length_drop, List.length_take]; rfl)) ?_
                                  with_reducible refine (sprlaw16_Plain.calls a2_0 a2_1 t375 t376 _ A88.out).mono ?_
                                  rintro e w101 ⟨rfl, hb⟩
                                  refine ⟨_, rfl, ?_⟩
                                  have n0_ := Aside0.mk (Kd.R_below (by (with_reducible repeat (first | apply Kd.R_alloc | apply Kd.R_drewN | apply Kd.R_drew)); exact HO_18.out) hb)
                                  have n1_ := Aside0.mk (Kd.R_below (by (with_reducible repeat (first | apply Kd.R_alloc | apply Kd.R_drewN | apply Kd.R_drew)); exact HO_21.out) hb)
                                  have n2_ := Aside0.mk (blk_below (g := gb332) (o := .cells #[.bool a1_0, .string a1_1] 23 (0, 0)) (by (with_reducible repeat (first | refine blk_drewN ?_ _ | refine blk_drew ?_ | refine blk_alloc ?_ _)); exact BK332.out) hb)
                                  have n3_ := Aside0.mk (blk_below (g := gb333) (o := .cells #[.bool a2_0, .string a2_1] 23 (0, 0)) (by (with_reducible repeat (first | refine blk_drewN ?_ _ | refine blk_drew ?_ | refine blk_alloc ?_ _)); exact BK333.out) hb)
                                  have n4_ := Aside0.mk (blk_below (g := gb343) (o := .cells #[.bool t340, .string t341] 23 (0, 0)) (by (with_reducible repeat (first | refine blk_drewN ?_ _ | refine blk_drew ?_ | refine blk_alloc ?_ _)); exact BK343.out) hb)
                                  have n5_ := Aside0.mk (blk_below (g := gb347) (o := .cells #[.bool t344, .string t345] 38 (0, 0)) (by (with_reducible repeat (first | refine blk_drewN ?_ _ | refine blk_drew ?_ | refine blk_alloc ?_ _)); exact BK347.out) hb)
                                  have n6_ := Aside0.mk (below_step (by repeat (first | (with_reducible first | exact HB.out | apply below_alloc | apply pw_below_drewN | apply below_drew1 | refine below_set ?_ GE332.out | refine below_set ?_ GE333.out | refine below_set ?_ GE343.out | refine below_set ?_ GE347.out) | exact HB.out)) hb)
                                  clear HO_18
                                  clear HO_21
                                  clear BK332
                                  clear BK333
                                  clear BK343
                                  clear BK347
                                  clear HB
                                  have HO_18 := n0_
                                  have HO_21 := n1_
                                  have BK332 := n2_
                                  have BK333 := n3_
                                  have BK343 := n4_
                                  have BK347 := n5_
                                  have HB := n6_
                                  clear n0_ n1_ n2_ n3_ n4_ n5_ n6_
                                  (try clear hb)
                                  (try clear hb2)
                                  (try clear hk)
                                  (try clear hi)
                                  refine hK.out _ _ ⟨(blk_cell BK343.out 0).trans rfl, (blk_cell BK343.out 1).trans rfl, (blk_cell BK347.out 0).trans rfl, (blk_cell BK347.out 1).trans rfl, (blk_cell BK332.out 0).trans rfl, (blk_cell BK332.out 1).trans rfl, (blk_cell BK333.out 0).trans rfl, (blk_cell BK333.out 1).trans rfl⟩ (fun hHeld => ?_)
                                  clear hK K
                                  refine norm_ (a' := ?_) ?_ ?_
                                  rotate_left
                                  · show Act.put _ (some 149) _ = _
                                    simp only [Act.put, List.setIfInBounds_toArray, List.set_cons_zero, List.set_cons_succ, i64_w, i32_w]
                                    rfl
                                  refine one_ (i := 30) (N := some 150) #[true, true, true, true, true, true, true, true, true, true, true, true, true, true, true, true, true, true, true, true, true, true, true, true, true, true, true, true, true, true, true, false, false, false, false, false, false, false, false, false, false, false, false, false, false] rfl rfl (one_of HT_.out (by kernel_rfl)) (by decide) (fun K hK => ?_)
                                  refine goes_ Tryd.func20 (by kernel_rfl) rfl #[.agg #[.bool t373, .string t374], .agg #[.bool t375, .string t376]] (by rfl) rfl rfl (by (try simp only [List.map_toArray, List.map_cons, List.map_nil]); first | done | rfl | (simp only [List.length_drop, List.length_take]; rfl)) ?_
                                  with_reducible refine (sprref14_Strong.calls t373 t374 t375 t376 t377 _ A89.out).mono ?_
                                  rintro e w102 ⟨rfl, hb⟩
                                  refine ⟨_, rfl, ?_⟩
                                  have n0_ := Aside0.mk (Kd.R_below (by (with_reducible repeat (first | apply Kd.R_alloc | apply Kd.R_drewN | apply Kd.R_drew)); exact HO_18.out) hb)
                                  have n1_ := Aside0.mk (Kd.R_below (by (with_reducible repeat (first | apply Kd.R_alloc | apply Kd.R_drewN | apply Kd.R_drew)); exact HO_21.out) hb)
                                  have n2_ := Aside0.mk (blk_below (g := gb332) (o := .cells #[.bool a1_0, .string a1_1] 23 (0, 0)) (by (with_reducible repeat (first | refine blk_drewN ?_ _ | refine blk_drew ?_ | refine blk_alloc ?_ _)); exact BK332.out) hb)
                                  have n3_ := Aside0.mk (blk_below (g := gb333) (o := .cells #[.bool a2_0, .string a2_1] 23 (0, 0)) (by (with_reducible repeat (first | refine blk_drewN ?_ _ | refine blk_drew ?_ | refine blk_alloc ?_ _)); exact BK333.out) hb)
                                  have n4_ := Aside0.mk (blk_below (g := gb343) (o := .cells #[.bool t340, .string t341] 23 (0, 0)) (by (with_reducible repeat (first | refine blk_drewN ?_ _ | refine blk_drew ?_ | refine blk_alloc ?_ _)); exact BK343.out) hb)
                                  have n5_ := Aside0.mk (blk_below (g := gb347) (o := .cells #[.bool t344, .string t345] 38 (0, 0)) (by (with_reducible repeat (first | refine blk_drewN ?_ _ | refine blk_drew ?_ | refine blk_alloc ?_ _)); exact BK347.out) hb)
                                  have n6_ := Aside0.mk (below_step (by repeat (first | (with_reducible first | exact HB.out | apply below_alloc | apply pw_below_drewN | apply below_drew1 | refine below_set ?_ GE332.out | refine below_set ?_ GE333.out | refine below_set ?_ GE343.out | refine below_set ?_ GE347.out) | exact HB.out)) hb)
                                  clear HO_18
                                  clear HO_21
                                  clear BK332
                                  clear BK333
                                  clear BK343
                                  clear BK347
                                  clear HB
                                  have HO_18 := n0_
                                  have HO_21 := n1_
                                  have BK332 := n2_
                                  have BK333 := n3_
                                  have BK343 := n4_
                                  have BK347 := n5_
                                  have HB := n6_
                                  clear n0_ n1_ n2_ n3_ n4_ n5_ n6_
                                  (try clear hb)
                                  (try clear hb2)
                                  (try clear hk)
                                  (try clear hi)
                                  refine hK.out _ _ ⟨(blk_cell BK343.out 0).trans rfl, (blk_cell BK343.out 1).trans rfl, (blk_cell BK347.out 0).trans rfl, (blk_cell BK347.out 1).trans rfl, (blk_cell BK332.out 0).trans rfl, (blk_cell BK332.out 1).trans rfl, (blk_cell BK333.out 0).trans rfl, (blk_cell BK333.out 1).trans rfl⟩ (fun hHeld => ?_)
                                  clear hK K
                                  refine norm_ (a' := ?_) ?_ ?_
                                  rotate_left
                                  · show Act.put _ (some 150) _ = _
                                    simp only [Act.put, List.setIfInBounds_toArray, List.set_cons_zero, List.set_cons_succ, i64_w, i32_w]
                                    rfl
                                  refine pure_ (i := 31) (N := some 151) (v := ?_) (a' := ?_) #[true, true, true, true, true, true, true, true, true, true, true, true, true, true, true, true, true, true, true, true, true, true, true, true, true, true, true, true, true, true, true, true, false, false, false, false, false, false, false, false, false, false, false, false, false] rfl rfl (any_of HT_.out (by kernel_rfl)) (fun _ _ _ h => h) (Or.inl ⟨by rfl, ?_⟩) ?_ ?_
                                  rotate_left
                                  · intro w'
                                    go_simp
                                    with_reducible rfl
                                  rotate_left
                                  · simp only [Act.put, List.setIfInBounds_toArray, List.set_cons_zero, List.set_cons_succ, i64_w, i32_w]
                                    rfl
                                  refine pure_ (i := 32) (N := some 152) (v := ?_) (a' := ?_) #[true, true, true, true, true, true, true, true, true, true, true, true, true, true, true, true, true, true, true, true, true, true, true, true, true, true, true, true, true, true, true, true, true, false, false, false, false, false, false, false, false, false, false, false, false] rfl rfl (any_of HT_.out (by kernel_rfl)) (fun _ _ _ h => h) (Or.inl ⟨by rfl, ?_⟩) ?_ ?_
                                  rotate_left
                                  · intro w'
                                    go_simp
                                    with_reducible rfl
                                  rotate_left
                                  · simp only [Act.put, List.setIfInBounds_toArray, List.set_cons_zero, List.set_cons_succ, i64_w, i32_w]
                                    rfl
                                  refine pure_ (i := 33) (N := some 153) (v := ?_) (a' := ?_) #[true, true, true, true, true, true, true, true, true, true, true, true, true, true, true, true, true, true, true, true, true, true, true, true, true, true, true, true, true, true, true, true, true, true, false, false, false, false, false, false, false, false, false, false, false] rfl rfl (any_of HT_.out (by kernel_rfl)) (fun _ _ _ h => h) (Or.inl ⟨by rfl, ?_⟩) ?_ ?_
                                  rotate_left
                                  · intro w'
                                    go_simp
                                    with_reducible rfl
                                  rotate_left
                                  · simp only [Act.put, List.setIfInBounds_toArray, List.set_cons_zero, List.set_cons_succ, i64_w, i32_w]
                                    rfl
                                  refine take_ (i := 34) (N := some 154) (v := ?_) (a' := ?_) #[true, true, true, true, true, true, true, true, true, true, true, true, true, true, true, true, true, true, true, true, true, true, true, true, true, true, true, true, true, true, true, true, true, true, true, false, false, false, false, false, false, false, false, false, false] rfl rfl (take_ofW HT_.out HW_.out (by kernel_rfl)) (fun _ _ _ h => h) (Or.inl ⟨by rfl, ?_⟩) hHeld ?_ ?_
                                  rotate_left
                                  · rintro w' ⟨s0, s1, s2, s3, s4, s5, s6, s7⟩
                                    go_simp
                                    with_reducible rfl
                                  rotate_left
                                  · simp only [Act.put, List.setIfInBounds_toArray, List.set_cons_zero, List.set_cons_succ, i64_w, i32_w]
                                    rfl
                                  refine take_ (i := 35) (N := some 155) (v := ?_) (a' := ?_) #[true, true, true, true, true, true, true, true, true, true, true, true, true, true, true, true, true, true, true, true, true, true, true, true, true, true, true, true, true, true, true, true, true, true, true, true, false, false, false, false, false, false, false, false, false] rfl rfl (take_ofW HT_.out HW_.out (by kernel_rfl)) (fun _ _ _ h => h) (Or.inl ⟨by rfl, ?_⟩) hHeld ?_ ?_
                                  rotate_left
                                  · rintro w' ⟨s0, s1, s2, s3, s4, s5, s6, s7⟩
                                    go_simp
                                    with_reducible rfl
                                  rotate_left
                                  · simp only [Act.put, List.setIfInBounds_toArray, List.set_cons_zero, List.set_cons_succ, i64_w, i32_w]
                                    rfl
                                  refine take_ (i := 37) (N := some 157) (v := ?_) (a' := ?_) #[true, true, true, true, true, true, true, true, true, true, true, true, true, true, true, true, true, true, true, true, true, true, true, true, true, true, true, true, true, true, true, true, true, true, true, true, false, true, false, false, false, false, false, false, false] rfl rfl (take_ofW HT_.out HW_.out (by kernel_rfl)) (fun _ _ _ h => h) (Or.inl ⟨by rfl, ?_⟩) hHeld ?_ ?_
                                  rotate_left
                                  · rintro w' ⟨s0, s1, s2, s3, s4, s5, s6, s7⟩
                                    go_simp
                                    with_reducible rfl
                                  rotate_left
                                  · simp only [Act.put, List.setIfInBounds_toArray, List.set_cons_zero, List.set_cons_succ, i64_w, i32_w]
                                    rfl
                                  refine take_ (i := 39) (N := some 159) (v := ?_) (a' := ?_) #[true, true, true, true, true, true, true, true, true, true, true, true, true, true, true, true, true, true, true, true, true, true, true, true, true, true, true, true, true, true, true, true, true, true, true, true, false, true, false, true, false, false, false, false, false] rfl rfl (take_ofW HT_.out HW_.out (by kernel_rfl)) (fun _ _ _ h => h) (Or.inl ⟨by rfl, ?_⟩) hHeld ?_ ?_
                                  rotate_left
                                  · rintro w' ⟨s0, s1, s2, s3, s4, s5, s6, s7⟩
                                    go_simp
                                    with_reducible rfl
                                  rotate_left
                                  · simp only [Act.put, List.setIfInBounds_toArray, List.set_cons_zero, List.set_cons_succ, i64_w, i32_w]
                                    rfl
                                  refine one_ (i := 36) (N := some 156) #[true, true, true, true, true, true, true, true, true, true, true, true, true, true, true, true, true, true, true, true, true, true, true, true, true, true, true, true, true, true, true, true, true, true, true, true, true, true, false, true, false, false, false, false, false] rfl rfl (one_of HT_.out (by kernel_rfl)) (by decide) (fun K hK => ?_)
                                  refine goes_ Tryd.func9 (by kernel_rfl) rfl #[.agg #[.bool a1_0, .string a1_1], .agg #[.bool a2_0, .string a2_1]] (by rfl) rfl rfl (by (try simp only [List.map_toArray, List.map_cons, List.map_nil]); first | done | rfl | (simp only [List.length_drop, List.length_take]; rfl)) ?_
                                  with_reducible refine (etag_Weak.calls a1_0 a1_1 a2_0 a2_1 t378 _ A91.out).mono ?_
                                  rintro e w103 ⟨rfl, hb⟩
                                  refine ⟨_, rfl, ?_⟩
                                  have n0_ := Aside0.mk (Kd.R_below (by (with_reducible repeat (first | apply Kd.R_alloc | apply Kd.R_drewN | apply Kd.R_drew)); exact HO_18.out) hb)
                                  have n1_ := Aside0.mk (Kd.R_below (by (with_reducible repeat (first | apply Kd.R_alloc | apply Kd.R_drewN | apply Kd.R_drew)); exact HO_21.out) hb)
                                  have n2_ := Aside0.mk (blk_below (g := gb332) (o := .cells #[.bool a1_0, .string a1_1] 23 (0, 0)) (by (with_reducible repeat (first | refine blk_drewN ?_ _ | refine blk_drew ?_ | refine blk_alloc ?_ _)); exact BK332.out) hb)
                                  have n3_ := Aside0.mk (blk_below (g := gb333) (o := .cells #[.bool a2_0, .string a2_1] 23 (0, 0)) (by (with_reducible repeat (first | refine blk_drewN ?_ _ | refine blk_drew ?_ | refine blk_alloc ?_ _)); exact BK333.out) hb)
                                  have n4_ := Aside0.mk (blk_below (g := gb343) (o := .cells #[.bool t340, .string t341] 23 (0, 0)) (by (with_reducible repeat (first | refine blk_drewN ?_ _ | refine blk_drew ?_ | refine blk_alloc ?_ _)); exact BK343.out) hb)
                                  have n5_ := Aside0.mk (blk_below (g := gb347) (o := .cells #[.bool t344, .string t345] 38 (0, 0)) (by (with_reducible repeat (first | refine blk_drewN ?_ _ | refine blk_drew ?_ | refine blk_alloc ?_ _)); exact BK347.out) hb)
                                  have n6_ := Aside0.mk (below_step (by repeat (first | (with_reducible first | exact HB.out | apply below_alloc | apply pw_below_drewN | apply below_drew1 | refine below_set ?_ GE332.out | refine below_set ?_ GE333.out | refine below_set ?_ GE343.out | refine below_set ?_ GE347.out) | exact HB.out)) hb)
                                  clear HO_18
                                  clear HO_21
                                  clear BK332
                                  clear BK333
                                  clear BK343
                                  clear BK347
                                  clear HB
                                  have HO_18 := n0_
                                  have HO_21 := n1_
                                  have BK332 := n2_
                                  have BK333 := n3_
                                  have BK343 := n4_
                                  have BK347 := n5_
                                  have HB := n6_
                                  clear n0_ n1_ n2_ n3_ n4_ n5_ n6_
                                  (try clear hb)
                                  (try clear hb2)
                                  (try clear hk)
                                  (try clear hi)
                                  refine hK.out _ _ ⟨(blk_cell BK343.out 0).trans rfl, (blk_cell BK343.out 1).trans rfl, (blk_cell BK347.out 0).trans rfl, (blk_cell BK347.out 1).trans rfl, (blk_cell BK332.out 0).trans rfl, (blk_cell BK332.out 1).trans rfl, (blk_cell BK333.out 0).trans rfl, (blk_cell BK333.out 1).trans rfl⟩ (fun hHeld => ?_)
                                  clear hK K
                                  refine norm_ (a' := ?_) ?_ ?_
                                  rotate_left
                                  · show Act.put _ (some 156) _ = _
                                    simp only [Act.put, List.setIfInBounds_toArray, List.set_cons_zero, List.set_cons_succ, i64_w, i32_w]
                                    rfl
                                  refine one_ (i := 38) (N := some 158) #[true, true, true, true, true, true, true, true, true, true, true, true, true, true, true, true, true, true, true, true, true, true, true, true, true, true, true, true, true, true, true, true, true, true, true, true, true, true, true, true, false, false, false, false, false] rfl rfl (one_of HT_.out (by kernel_rfl)) (by decide) (fun K hK => ?_)
                                  refine goes_ Tryd.func17 (by kernel_rfl) rfl #[.agg #[.bool a1_0, .string a1_1]] (by rfl) rfl rfl (by (try simp only [List.map_toArray, List.map_cons, List.map_nil]); first | done | rfl | (simp only [List.length_drop, List.length_take]; rfl)) ?_
                                  with_reducible refine (sprlaw16_Plain.calls a1_0 a1_1 t379 t380 _ A92.out).mono ?_
                                  rintro e w104 ⟨rfl, hb⟩
                                  refine ⟨_, rfl, ?_⟩
                                  have n0_ := Aside0.mk (Kd.R_below (by (with_reducible repeat (first | apply Kd.R_alloc | apply Kd.R_drewN | apply Kd.R_drew)); exact HO_18.out) hb)
                                  have n1_ := Aside0.mk (Kd.R_below (by (with_reducible repeat (first | apply Kd.R_alloc | apply Kd.R_drewN | apply Kd.R_drew)); exact HO_21.out) hb)
                                  have n2_ := Aside0.mk (blk_below (g := gb332) (o := .cells #[.bool a1_0, .string a1_1] 23 (0, 0)) (by (with_reducible repeat (first | refine blk_drewN ?_ _ | refine blk_drew ?_ | refine blk_alloc ?_ _)); exact BK332.out) hb)
                                  have n3_ := Aside0.mk (blk_below (g := gb333) (o := .cells #[.bool a2_0, .string a2_1] 23 (0, 0)) (by (with_reducible repeat (first | refine blk_drewN ?_ _ | refine blk_drew ?_ | refine blk_alloc ?_ _)); exact BK333.out) hb)
                                  have n4_ := Aside0.mk (blk_below (g := gb343) (o := .cells #[.bool t340, .string t341] 23 (0, 0)) (by (with_reducible repeat (first | refine blk_drewN ?_ _ | refine blk_drew ?_ | refine blk_alloc ?_ _)); exact BK343.out) hb)
                                  have n5_ := Aside0.mk (blk_below (g := gb347) (o := .cells #[.bool t344, .string t345] 38 (0, 0)) (by (with_reducible repeat (first | refine blk_drewN ?_ _ | refine blk_drew ?_ | refine blk_alloc ?_ _)); exact BK347.out) hb)
                                  have n6_ := Aside0.mk (below_step (by repeat (first | (with_reducible first | exact HB.out | apply below_alloc | apply pw_below_drewN | apply below_drew1 | refine below_set ?_ GE332.out | refine below_set ?_ GE333.out | refine below_set ?_ GE343.out | refine below_set ?_ GE347.out) | exact HB.out)) hb)
                                  clear HO_18
                                  clear HO_21
                                  clear BK332
                                  clear BK333
                                  clear BK343
                                  clear BK347
                                  clear HB
                                  have HO_18 := n0_
                                  have HO_21 := n1_
                                  have BK332 := n2_
                                  have BK333 := n3_
                                  have BK343 := n4_
                                  have BK347 := n5_
                                  have HB := n6_
                                  clear n0_ n1_ n2_ n3_ n4_ n5_ n6_
                                  (try clear hb)
                                  (try clear hb2)
                                  (try clear hk)
                                  (try clear hi)
                                  refine hK.out _ _ ⟨(blk_cell BK343.out 0).trans rfl, (blk_cell BK343.out 1).trans rfl, (blk_cell BK347.out 0).trans rfl, (blk_cell BK347.out 1).trans rfl, (blk_cell BK332.out 0).trans rfl, (blk_cell BK332.out 1).trans rfl, (blk_cell BK333.out 0).trans rfl, (blk_cell BK333.out 1).trans rfl⟩ (fun hHeld => ?_)
                                  clear hK K
                                  refine norm_ (a' := ?_) ?_ ?_
                                  rotate_left
                                  · show Act.put _ (some 158) _ = _
                                    simp only [Act.put, List.setIfInBounds_toArray, List.set_cons_zero, List.set_cons_succ, i64_w, i32_w]
                                    rfl
                                  refine one_ (i := 40) (N := some 160) #[true, true, true, true, true, true, true, true, true, true, true, true, true, true, true, true, true, true, true, true, true, true, true, true, true, true, true, true, true, true, true, true, true, true, true, true, true, true, true, true, true, false, false, false, false] rfl rfl (one_of HT_.out (by kernel_rfl)) (by decide) (fun K hK => ?_)
                                  refine goes_ Tryd.func17 (by kernel_rfl) rfl #[.agg #[.bool a2_0, .string a2_1]] (by rfl) rfl rfl (by (try simp only [List.map_toArray, List.map_cons, List.map_nil]); first | done | rfl | (simp only [List.length_drop, List.length_take]; rfl)) ?_
                                  with_reducible refine (sprlaw16_Plain.calls a2_0 a2_1 t381 t382 _ A93.out).mono ?_
                                  rintro e w105 ⟨rfl, hb⟩
                                  refine ⟨_, rfl, ?_⟩
                                  have n0_ := Aside0.mk (Kd.R_below (by (with_reducible repeat (first | apply Kd.R_alloc | apply Kd.R_drewN | apply Kd.R_drew)); exact HO_18.out) hb)
                                  have n1_ := Aside0.mk (Kd.R_below (by (with_reducible repeat (first | apply Kd.R_alloc | apply Kd.R_drewN | apply Kd.R_drew)); exact HO_21.out) hb)
                                  have n2_ := Aside0.mk (blk_below (g := gb332) (o := .cells #[.bool a1_0, .string a1_1] 23 (0, 0)) (by (with_reducible repeat (first | refine blk_drewN ?_ _ | refine blk_drew ?_ | refine blk_alloc ?_ _)); exact BK332.out) hb)
                                  have n3_ := Aside0.mk (blk_below (g := gb333) (o := .cells #[.bool a2_0, .string a2_1] 23 (0, 0)) (by (with_reducible repeat (first | refine blk_drewN ?_ _ | refine blk_drew ?_ | refine blk_alloc ?_ _)); exact BK333.out) hb)
                                  have n4_ := Aside0.mk (blk_below (g := gb343) (o := .cells #[.bool t340, .string t341] 23 (0, 0)) (by (with_reducible repeat (first | refine blk_drewN ?_ _ | refine blk_drew ?_ | refine blk_alloc ?_ _)); exact BK343.out) hb)
                                  have n5_ := Aside0.mk (blk_below (g := gb347) (o := .cells #[.bool t344, .string t345] 38 (0, 0)) (by (with_reducible repeat (first | refine blk_drewN ?_ _ | refine blk_drew ?_ | refine blk_alloc ?_ _)); exact BK347.out) hb)
                                  have n6_ := Aside0.mk (below_step (by repeat (first | (with_reducible first | exact HB.out | apply below_alloc | apply pw_below_drewN | apply below_drew1 | refine below_set ?_ GE332.out | refine below_set ?_ GE333.out | refine below_set ?_ GE343.out | refine below_set ?_ GE347.out) | exact HB.out)) hb)
                                  clear HO_18
                                  clear HO_21
                                  clear BK332
                                  clear BK333
                                  clear BK343
                                  clear BK347
                                  clear HB
                                  have HO_18 := n0_
                                  have HO_21 := n1_
                                  have BK332 := n2_
                                  have BK333 := n3_
                                  have BK343 := n4_
                                  have BK347 := n5_
                                  have HB := n6_
                                  clear n0_ n1_ n2_ n3_ n4_ n5_ n6_
                                  (try clear hb)
                                  (try clear hb2)
                                  (try clear hk)
                                  (try clear hi)
                                  refine hK.out _ _ ⟨(blk_cell BK343.out 0).trans rfl, (blk_cell BK343.out 1).trans rfl, (blk_cell BK347.out 0).trans rfl, (blk_cell BK347.out 1).trans rfl, (blk_cell BK332.out 0).trans rfl, (blk_cell BK332.out 1).trans rfl, (blk_cell BK333.out 0).trans rfl, (blk_cell BK333.out 1).trans rfl⟩ (fun hHeld => ?_)
                                  clear hK K
                                  refine norm_ (a' := ?_) ?_ ?_
                                  rotate_left
                                  · show Act.put _ (some 160) _ = _
                                    simp only [Act.put, List.setIfInBounds_toArray, List.set_cons_zero, List.set_cons_succ, i64_w, i32_w]
                                    rfl
                                  refine one_ (i := 41) (N := some 161) #[true, true, true, true, true, true, true, true, true, true, true, true, true, true, true, true, true, true, true, true, true, true, true, true, true, true, true, true, true, true, true, true, true, true, true, true, true, true, true, true, true, true, false, false, false] rfl rfl (one_of HT_.out (by kernel_rfl)) (by decide) (fun K hK => ?_)
                                  refine goes_ Tryd.func21 (by kernel_rfl) rfl #[.agg #[.bool t379, .string t380], .agg #[.bool t381, .string t382]] (by rfl) rfl rfl (by (try simp only [List.map_toArray, List.map_cons, List.map_nil]); first | done | rfl | (simp only [List.length_drop, List.length_take]; rfl)) ?_
                                  with_reducible refine (sprref14_Weak.calls t379 t380 t381 t382 t383 _ A94.out).mono ?_
                                  rintro e w106 ⟨rfl, hb⟩
                                  refine ⟨_, rfl, ?_⟩
                                  have n0_ := Aside0.mk (Kd.R_below (by (with_reducible repeat (first | apply Kd.R_alloc | apply Kd.R_drewN | apply Kd.R_drew)); exact HO_18.out) hb)
                                  have n1_ := Aside0.mk (Kd.R_below (by (with_reducible repeat (first | apply Kd.R_alloc | apply Kd.R_drewN | apply Kd.R_drew)); exact HO_21.out) hb)
                                  have n2_ := Aside0.mk (blk_below (g := gb332) (o := .cells #[.bool a1_0, .string a1_1] 23 (0, 0)) (by (with_reducible repeat (first | refine blk_drewN ?_ _ | refine blk_drew ?_ | refine blk_alloc ?_ _)); exact BK332.out) hb)
                                  have n3_ := Aside0.mk (blk_below (g := gb333) (o := .cells #[.bool a2_0, .string a2_1] 23 (0, 0)) (by (with_reducible repeat (first | refine blk_drewN ?_ _ | refine blk_drew ?_ | refine blk_alloc ?_ _)); exact BK333.out) hb)
                                  have n4_ := Aside0.mk (blk_below (g := gb343) (o := .cells #[.bool t340, .string t341] 23 (0, 0)) (by (with_reducible repeat (first | refine blk_drewN ?_ _ | refine blk_drew ?_ | refine blk_alloc ?_ _)); exact BK343.out) hb)
                                  have n5_ := Aside0.mk (blk_below (g := gb347) (o := .cells #[.bool t344, .string t345] 38 (0, 0)) (by (with_reducible repeat (first | refine blk_drewN ?_ _ | refine blk_drew ?_ | refine blk_alloc ?_ _)); exact BK347.out) hb)
                                  have n6_ := Aside0.mk (below_step (by repeat (first | (with_reducible first | exact HB.out | apply below_alloc | apply pw_below_drewN | apply below_drew1 | refine below_set ?_ GE332.out | refine below_set ?_ GE333.out | refine below_set ?_ GE343.out | refine below_set ?_ GE347.out) | exact HB.out)) hb)
                                  clear HO_18
                                  clear HO_21
                                  clear BK332
                                  clear BK333
                                  clear BK343
                                  clear BK347
                                  clear HB
                                  have HO_18 := n0_
                                  have HO_21 := n1_
                                  have BK332 := n2_
                                  have BK333 := n3_
                                  have BK343 := n4_
                                  have BK347 := n5_
                                  have HB := n6_
                                  clear n0_ n1_ n2_ n3_ n4_ n5_ n6_
                                  (try clear hb)
                                  (try clear hb2)
                                  (try clear hk)
                                  (try clear hi)
                                  refine hK.out _ _ ⟨(blk_cell BK343.out 0).trans rfl, (blk_cell BK343.out 1).trans rfl, (blk_cell BK347.out 0).trans rfl, (blk_cell BK347.out 1).trans rfl, (blk_cell BK332.out 0).trans rfl, (blk_cell BK332.out 1).trans rfl, (blk_cell BK333.out 0).trans rfl, (blk_cell BK333.out 1).trans rfl⟩ (fun hHeld => ?_)
                                  clear hK K
                                  refine norm_ (a' := ?_) ?_ ?_
                                  rotate_left
                                  · show Act.put _ (some 161) _ = _
                                    simp only [Act.put, List.setIfInBounds_toArray, List.set_cons_zero, List.set_cons_succ, i64_w, i32_w]
                                    rfl
                                  refine pure_ (i := 42) (N := some 162) (v := ?_) (a' := ?_) #[true, true, true, true, true, true, true, true, true, true, true, true, true, true, true, true, true, true, true, true, true, true, true, true, true, true, true, true, true, true, true, true, true, true, true, true, true, true, true, true, true, true, true, false, false] rfl rfl (any_of HT_.out (by kernel_rfl)) (fun _ _ _ h => h) (Or.inl ⟨by rfl, ?_⟩) ?_ ?_
                                  rotate_left
                                  · intro w'
                                    go_simp
                                    with_reducible rfl
                                  rotate_left
                                  · simp only [Act.put, List.setIfInBounds_toArray, List.set_cons_zero, List.set_cons_succ, i64_w, i32_w]
                                    rfl
                                  refine pure_ (i := 43) (N := some 163) (v := ?_) (a' := ?_) #[true, true, true, true, true, true, true, true, true, true, true, true, true, true, true, true, true, true, true, true, true, true, true, true, true, true, true, true, true, true, true, true, true, true, true, true, true, true, true, true, true, true, true, true, false] rfl rfl (any_of HT_.out (by kernel_rfl)) (fun _ _ _ h => h) (Or.inl ⟨by rfl, ?_⟩) ?_ ?_
                                  rotate_left
                                  · intro w'
                                    go_simp
                                    with_reducible rfl
                                  rotate_left
                                  · simp only [Act.put, List.setIfInBounds_toArray, List.set_cons_zero, List.set_cons_succ, i64_w, i32_w]
                                    rfl
                                  refine pure_ (i := 44) (N := some 8) (v := ?_) (a' := ?_) #[true, true, true, true, true, true, true, true, true, true, true, true, true, true, true, true, true, true, true, true, true, true, true, true, true, true, true, true, true, true, true, true, true, true, true, true, true, true, true, true, true, true, true, true, true] rfl rfl (any_of HT_.out (by kernel_rfl)) (fun _ _ _ h => h) (Or.inl ⟨by rfl, ?_⟩) ?_ ?_
                                  rotate_left
                                  · intro w'
                                    go_simp
                                    with_reducible rfl
                                  rotate_left
                                  · simp only [Act.put, List.setIfInBounds_toArray, List.set_cons_zero, List.set_cons_succ, i64_w, i32_w]
                                    rfl
                                  refine done_ (done_of HT_.out (by kernel_rfl)) ?_
                                  try go_wp2
                                  go_ret
                                  exact ⟨by first | rfl | (simp [errW_none, errW_some] <;> rfl) | (simp [*, errW_none, errW_some] <;> rfl), by repeat (first | (with_reducible first | exact HB.out | apply below_alloc | apply pw_below_drewN | apply below_drew1 | refine below_set ?_ GE332.out | refine below_set ?_ GE333.out | refine below_set ?_ GE343.out | refine below_set ?_ GE347.out) | exact HB.out)⟩
                                · rw [if_neg c90] at H
                                  have c90b0 : (t372 == t377) = false := by simpa using c90
                                  (try (have c90b1 : decide (t372 = t377) = false := by simpa using c90))
                                  (try (have c90b2 : (t372 == t377) = false := by simpa using c90))
                                  (try (have c90b3 : ¬ (t372 = t377) := by simpa using c90))
                                  clear c90
                                  exact absurd ((Option.some.inj H).trans hT.out) (by decide)
                              · rw [if_neg c85] at H
                                have c85b0 : (t349 == t353) = false := by simpa using c85
                                (try (have c85b1 : decide (t349 = t353) = false := by simpa using c85))
                                (try (have c85b2 : (t349 == t353) = false := by simpa using c85))
                                (try (have c85b3 : ¬ (t349 = t353) := by simpa using c85))
                                clear c85
                                exact absurd ((Option.some.inj H).trans hT.out) (by decide)
                            · rw [if_neg c84] at H
                              have c84b0 : (t348.toList == t352.toList) = false := beq_eq_false_iff_ne.mpr c84
                              have c84b1 : (t348.toList != t352.toList) = true := bne_iff_ne.mpr c84
                              exact absurd ((Option.some.inj H).trans hT.out) (by decide)
                          · rw [if_neg c83] at H
                            have c83b0 : (t342 == t346) = false := by simpa using c83
                            (try (have c83b1 : decide (t342 = t346) = false := by simpa using c83))
                            (try (have c83b2 : (t342 == t346) = false := by simpa using c83))
                            (try (have c83b3 : ¬ (t342 = t346) := by simpa using c83))
                            clear c83
                            exact absurd ((Option.some.inj H).trans hT.out) (by decide)
                        · rw [if_neg c82] at H
                          have c82b0 : (t370 == t344 && (t371.toList == t345.toList)) = false := by simpa using c82
                          (try (have c82b1 : decide (t370 = t344 && (t371.toList == t345.toList)) = false := by simpa using c82))
                          (try (have c82b2 : (t370 == t344 && (t371.toList == t345.toList)) = false := by simpa using c82))
                          (try (have c82b3 : ¬ (t370 = t344 && (t371.toList == t345.toList)) := by simpa using c82))
                          clear c82
                          exact absurd ((Option.some.inj H).trans hT.out) (by decide)
                      · replace c80 := Bool.eq_false_iff.mpr c80
                        subst c80
                        have H1 : (some false) = some r := by rw [if_neg (show ¬ (false = true) by decide)] at H; exact H
                        clear H
                        have H := H1
                        clear H1
                        exact absurd ((Option.some.inj H).trans hT.out) (by decide)
  · replace c6 := Bool.eq_false_iff.mpr c6
    subst c6
    have H1 : (some false) = some r := by rw [if_neg (show ¬ (false = true) by decide)] at H; exact H
    clear H
    have H := H1
    clear H1
    exact absurd ((Option.some.inj H).trans hT.out) (by decide)

end Go.Proofs.YtalmcjdlfppkdaaDoor.Q
