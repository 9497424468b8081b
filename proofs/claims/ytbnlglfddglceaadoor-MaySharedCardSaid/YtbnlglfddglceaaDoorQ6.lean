-- Written by a program of this session's (wip/xprint.py), out of the seat's translation.
import Derived.Test.YtbnlglfddglceaaDoorQ0
import Derived.Test.YtbnlglfddglceaaDoorQ1
import Derived.Test.YtbnlglfddglceaaDoorQ3
import Derived.Test.YtbnlglfddglceaaDoorQ5
namespace Go.Proofs.YtbnlglfddglceaaDoor.Q
open Go.RowKit Go.Proofs.YtbnlglfddglceaaDoorW.PrintWords Go.Proofs.YtbnlglfddglceaaDoorW.PrintLast Go.Proofs.YtbnlglfddglceaaDoorW.PrintMore
attribute [local go_sem] max2_int min2_int max_two min_two max_three min_three max_four min_four   -- for this text's walks alone
set_option linter.unusedVariables false
set_option linter.unusedSimpArgs false

/-! ### may_Store: function 9 -/
mutual
def may_Store.j1 : Nat → Bool → ByteArray → ByteArray → ByteArray → List (S42) → Int → List (S42) → List Int → Bool → Bool → Bool → Bool → Bool → Bool → Bool → Bool → Bool → Bool → Bool → Bool → Int → Bool → Int → Bool → Int → Bool → Int → Bool → Int → Option (Int)
  | 0, _, _, _, _, _, _, _, _, _, _, _, _, _, _, _, _, _, _, _, _, _, _, _, _, _, _, _, _, _ => none
  | k + 1, x0, x181000, x181001, x181002, x181003, x182000, x182001, x182002, x204000, x204001, x204002, x204003, x204004, x204005, x204006, x204007, x204008, x204009, x204010, x204011, x204012, x204013, x204014, x204015, x204016, x204017, x204018, x204019, x204020 => if x0 = true then ((may_others.f k x181000 x181001 x181002 x181003 x204000 x204001 x204002 x204003 x204004 x204005 x204006 x204007 x204008 x204009 x204010 x204011 x204012 x204013 x204014 x204015 x204016 x204017 x204018 x204019 x204020).bind fun t227 => (if t227 = 0 then (may_Store.j2 k x0 x182000 x182001 x182002 x204000 x204001 x204002 x204003 x204004 x204005 x204006 x204007 x204008 x204009 x204010 x204011 x204012 x204013 x204014 x204015 x204016 x204017 x204018 x204019 x204020) else (some t227))) else (may_Store.j2 k x0 x182000 x182001 x182002 x204000 x204001 x204002 x204003 x204004 x204005 x204006 x204007 x204008 x204009 x204010 x204011 x204012 x204013 x204014 x204015 x204016 x204017 x204018 x204019 x204020)
def may_Store.j2 : Nat → Bool → Int → List (S42) → List Int → Bool → Bool → Bool → Bool → Bool → Bool → Bool → Bool → Bool → Bool → Bool → Bool → Int → Bool → Int → Bool → Int → Bool → Int → Bool → Int → Option (Int)
  | 0, _, _, _, _, _, _, _, _, _, _, _, _, _, _, _, _, _, _, _, _, _, _, _, _, _ => none
  | k + 1, x0, x182000, x182001, x182002, x204000, x204001, x204002, x204003, x204004, x204005, x204006, x204007, x204008, x204009, x204010, x204011, x204012, x204013, x204014, x204015, x204016, x204017, x204018, x204019, x204020 => (head_All.f k x182001 (⟨#[86, 97, 114, 121]⟩ : ByteArray)).bind fun t228 => ((vary_Parse.f k t228).bind fun bt231 => (if bt231.1 = true then (some 6) else ((age_Explicit.f k x0 x182001).bind fun t235 => (if t235 = true then (some 0) else (if x204003 = true then (some 0) else ((age_Usual.f x182000).bind fun t236 => (if t236 = true then (some 0) else (some 7))))))))
def may_Store.j0 : Nat → Bool → Bool → ByteArray → ByteArray → ByteArray → List (S42) → Int → List (S42) → List Int → Bool → Bool → Bool → Bool → Bool → Bool → Bool → Bool → Bool → Bool → Bool → Bool → Int → Bool → Int → Bool → Int → Bool → Int → Bool → Int → Option (Int)
  | 0, _, _, _, _, _, _, _, _, _, _, _, _, _, _, _, _, _, _, _, _, _, _, _, _, _, _, _, _, _, _ => none
  | k + 1, x0, x16, x181000, x181001, x181002, x181003, x182000, x182001, x182002, x204000, x204001, x204002, x204003, x204004, x204005, x204006, x204007, x204008, x204009, x204010, x204011, x204012, x204013, x204014, x204015, x204016, x204017, x204018, x204019, x204020 => if x16 = true then (some 2) else ((may_control.f k x181003).bind fun bt205 => (if bt205.1 = true then (some 3) else (if x204000 = true then (some 3) else (if x204007 = true then ((age_Usual.f x182000).bind fun t226 => (if t226 = true then (may_Store.j1 k x0 x181000 x181001 x181002 x181003 x182000 x182001 x182002 x204000 x204001 x204002 x204003 x204004 x204005 x204006 x204007 x204008 x204009 x204010 x204011 x204012 x204013 x204014 x204015 x204016 x204017 x204018 x204019 x204020) else (some 3))) else (may_Store.j1 k x0 x181000 x181001 x181002 x181003 x182000 x182001 x182002 x204000 x204001 x204002 x204003 x204004 x204005 x204006 x204007 x204008 x204009 x204010 x204011 x204012 x204013 x204014 x204015 x204016 x204017 x204018 x204019 x204020)))))
end
def may_Store.f (k : Nat) (a0 : Bool) (a1_0 : ByteArray) (a1_1 : ByteArray) (a1_2 : ByteArray) (l1_3 : List (S42)) (a2_0 : Int) (l2_1 : List (S42)) (l2_2 : List Int) : Option (Int) := (may_control.f k l2_1).bind fun bt182 => ((may_Plain.f k a1_0 a1_1 a1_2 l1_3).bind fun t204 => (if t204 = true then (if a2_0 < 200 then (may_Store.j0 k a0 true a1_0 a1_1 a1_2 l1_3 a2_0 l2_1 l2_2 bt182.1 bt182.2.1 bt182.2.2.1 bt182.2.2.2.1 bt182.2.2.2.2.1 bt182.2.2.2.2.2.1 bt182.2.2.2.2.2.2.1 bt182.2.2.2.2.2.2.2.1 bt182.2.2.2.2.2.2.2.2.1 bt182.2.2.2.2.2.2.2.2.2.1 bt182.2.2.2.2.2.2.2.2.2.2.1 bt182.2.2.2.2.2.2.2.2.2.2.2.1 bt182.2.2.2.2.2.2.2.2.2.2.2.2.1 bt182.2.2.2.2.2.2.2.2.2.2.2.2.2.1 bt182.2.2.2.2.2.2.2.2.2.2.2.2.2.2.1 bt182.2.2.2.2.2.2.2.2.2.2.2.2.2.2.2.1 bt182.2.2.2.2.2.2.2.2.2.2.2.2.2.2.2.2.1 bt182.2.2.2.2.2.2.2.2.2.2.2.2.2.2.2.2.2.1 bt182.2.2.2.2.2.2.2.2.2.2.2.2.2.2.2.2.2.2.1 bt182.2.2.2.2.2.2.2.2.2.2.2.2.2.2.2.2.2.2.2.1 bt182.2.2.2.2.2.2.2.2.2.2.2.2.2.2.2.2.2.2.2.2) else (if a2_0 = 206 then (may_Store.j0 k a0 true a1_0 a1_1 a1_2 l1_3 a2_0 l2_1 l2_2 bt182.1 bt182.2.1 bt182.2.2.1 bt182.2.2.2.1 bt182.2.2.2.2.1 bt182.2.2.2.2.2.1 bt182.2.2.2.2.2.2.1 bt182.2.2.2.2.2.2.2.1 bt182.2.2.2.2.2.2.2.2.1 bt182.2.2.2.2.2.2.2.2.2.1 bt182.2.2.2.2.2.2.2.2.2.2.1 bt182.2.2.2.2.2.2.2.2.2.2.2.1 bt182.2.2.2.2.2.2.2.2.2.2.2.2.1 bt182.2.2.2.2.2.2.2.2.2.2.2.2.2.1 bt182.2.2.2.2.2.2.2.2.2.2.2.2.2.2.1 bt182.2.2.2.2.2.2.2.2.2.2.2.2.2.2.2.1 bt182.2.2.2.2.2.2.2.2.2.2.2.2.2.2.2.2.1 bt182.2.2.2.2.2.2.2.2.2.2.2.2.2.2.2.2.2.1 bt182.2.2.2.2.2.2.2.2.2.2.2.2.2.2.2.2.2.2.1 bt182.2.2.2.2.2.2.2.2.2.2.2.2.2.2.2.2.2.2.2.1 bt182.2.2.2.2.2.2.2.2.2.2.2.2.2.2.2.2.2.2.2.2) else (may_Store.j0 k a0 (a2_0 == 304) a1_0 a1_1 a1_2 l1_3 a2_0 l2_1 l2_2 bt182.1 bt182.2.1 bt182.2.2.1 bt182.2.2.2.1 bt182.2.2.2.2.1 bt182.2.2.2.2.2.1 bt182.2.2.2.2.2.2.1 bt182.2.2.2.2.2.2.2.1 bt182.2.2.2.2.2.2.2.2.1 bt182.2.2.2.2.2.2.2.2.2.1 bt182.2.2.2.2.2.2.2.2.2.2.1 bt182.2.2.2.2.2.2.2.2.2.2.2.1 bt182.2.2.2.2.2.2.2.2.2.2.2.2.1 bt182.2.2.2.2.2.2.2.2.2.2.2.2.2.1 bt182.2.2.2.2.2.2.2.2.2.2.2.2.2.2.1 bt182.2.2.2.2.2.2.2.2.2.2.2.2.2.2.2.1 bt182.2.2.2.2.2.2.2.2.2.2.2.2.2.2.2.2.1 bt182.2.2.2.2.2.2.2.2.2.2.2.2.2.2.2.2.2.1 bt182.2.2.2.2.2.2.2.2.2.2.2.2.2.2.2.2.2.2.1 bt182.2.2.2.2.2.2.2.2.2.2.2.2.2.2.2.2.2.2.2.1 bt182.2.2.2.2.2.2.2.2.2.2.2.2.2.2.2.2.2.2.2.2))) else (some 1)))
theorem may_Store.mono_l : ∀ k, (∀ y0 y1 y2 y3 y4 y5 y6 y7 y8 y9 y10 y11 y12 y13 y14 y15 y16 y17 y18 y19 y20 y21 y22 y23 y24 y25 y26 y27 y28, LeO (may_Store.j1 k y0 y1 y2 y3 y4 y5 y6 y7 y8 y9 y10 y11 y12 y13 y14 y15 y16 y17 y18 y19 y20 y21 y22 y23 y24 y25 y26 y27 y28) (may_Store.j1 (k + 1) y0 y1 y2 y3 y4 y5 y6 y7 y8 y9 y10 y11 y12 y13 y14 y15 y16 y17 y18 y19 y20 y21 y22 y23 y24 y25 y26 y27 y28)) ∧ (∀ y0 y1 y2 y3 y4 y5 y6 y7 y8 y9 y10 y11 y12 y13 y14 y15 y16 y17 y18 y19 y20 y21 y22 y23 y24, LeO (may_Store.j2 k y0 y1 y2 y3 y4 y5 y6 y7 y8 y9 y10 y11 y12 y13 y14 y15 y16 y17 y18 y19 y20 y21 y22 y23 y24) (may_Store.j2 (k + 1) y0 y1 y2 y3 y4 y5 y6 y7 y8 y9 y10 y11 y12 y13 y14 y15 y16 y17 y18 y19 y20 y21 y22 y23 y24)) ∧ (∀ y0 y1 y2 y3 y4 y5 y6 y7 y8 y9 y10 y11 y12 y13 y14 y15 y16 y17 y18 y19 y20 y21 y22 y23 y24 y25 y26 y27 y28 y29, LeO (may_Store.j0 k y0 y1 y2 y3 y4 y5 y6 y7 y8 y9 y10 y11 y12 y13 y14 y15 y16 y17 y18 y19 y20 y21 y22 y23 y24 y25 y26 y27 y28 y29) (may_Store.j0 (k + 1) y0 y1 y2 y3 y4 y5 y6 y7 y8 y9 y10 y11 y12 y13 y14 y15 y16 y17 y18 y19 y20 y21 y22 y23 y24 y25 y26 y27 y28 y29))
  | 0 => ⟨fun _ _ _ _ _ _ _ _ _ _ _ _ _ _ _ _ _ _ _ _ _ _ _ _ _ _ _ _ _ r h => by simp [may_Store.j1] at h, fun _ _ _ _ _ _ _ _ _ _ _ _ _ _ _ _ _ _ _ _ _ _ _ _ _ r h => by simp [may_Store.j2] at h, fun _ _ _ _ _ _ _ _ _ _ _ _ _ _ _ _ _ _ _ _ _ _ _ _ _ _ _ _ _ _ r h => by simp [may_Store.j0] at h⟩
  | k + 1 => by
    obtain ⟨ih0, ih1, ih2⟩ := may_Store.mono_l k
    refine ⟨?_, ?_, ?_⟩
    · intro y0 y1 y2 y3 y4 y5 y6 y7 y8 y9 y10 y11 y12 y13 y14 y15 y16 y17 y18 y19 y20 y21 y22 y23 y24 y25 y26 y27 y28
      unfold may_Store.j1
      repeat' first
      | (with_reducible exact ih0 _ _ _ _ _ _ _ _ _ _ _ _ _ _ _ _ _ _ _ _ _ _ _ _ _ _ _ _ _)
      | (with_reducible exact ih1 _ _ _ _ _ _ _ _ _ _ _ _ _ _ _ _ _ _ _ _ _ _ _ _ _)
      | (with_reducible exact ih2 _ _ _ _ _ _ _ _ _ _ _ _ _ _ _ _ _ _ _ _ _ _ _ _ _ _ _ _ _ _)
      | (with_reducible exact age_Explicit.mono _ _ _)
      | (with_reducible exact head_All.mono _ _ _)
      | (with_reducible exact may_Plain.mono _ _ _ _ _)
      | (with_reducible exact may_control.mono _ _)
      | (with_reducible exact may_others.mono _ _ _ _ _ _ _ _ _ _ _ _ _ _ _ _ _ _ _ _ _ _ _ _ _ _)
      | (with_reducible exact vary_Parse.mono _ _)
      | (with_reducible exact LeO.refl _)
      | (with_reducible exact LeO.none _)
      | (with_reducible refine LeO.ite ?_ ?_)
      | (with_reducible refine LeO.bind ?_ (fun _ => ?_))
      | exact ih0 _ _ _ _ _ _ _ _ _ _ _ _ _ _ _ _ _ _ _ _ _ _ _ _ _ _ _ _ _
      | exact ih1 _ _ _ _ _ _ _ _ _ _ _ _ _ _ _ _ _ _ _ _ _ _ _ _ _
      | exact ih2 _ _ _ _ _ _ _ _ _ _ _ _ _ _ _ _ _ _ _ _ _ _ _ _ _ _ _ _ _ _
      | exact age_Explicit.mono _ _ _
      | exact head_All.mono _ _ _
      | exact may_Plain.mono _ _ _ _ _
      | exact may_control.mono _ _
      | exact may_others.mono _ _ _ _ _ _ _ _ _ _ _ _ _ _ _ _ _ _ _ _ _ _ _ _ _ _
      | exact vary_Parse.mono _ _
      | exact LeO.none _
      | refine LeO.ite ?_ ?_
      | refine LeO.bind ?_ (fun _ => ?_)
    · intro y0 y1 y2 y3 y4 y5 y6 y7 y8 y9 y10 y11 y12 y13 y14 y15 y16 y17 y18 y19 y20 y21 y22 y23 y24
      unfold may_Store.j2
      repeat' first
      | (with_reducible exact ih0 _ _ _ _ _ _ _ _ _ _ _ _ _ _ _ _ _ _ _ _ _ _ _ _ _ _ _ _ _)
      | (with_reducible exact ih1 _ _ _ _ _ _ _ _ _ _ _ _ _ _ _ _ _ _ _ _ _ _ _ _ _)
      | (with_reducible exact ih2 _ _ _ _ _ _ _ _ _ _ _ _ _ _ _ _ _ _ _ _ _ _ _ _ _ _ _ _ _ _)
      | (with_reducible exact age_Explicit.mono _ _ _)
      | (with_reducible exact head_All.mono _ _ _)
      | (with_reducible exact may_Plain.mono _ _ _ _ _)
      | (with_reducible exact may_control.mono _ _)
      | (with_reducible exact may_others.mono _ _ _ _ _ _ _ _ _ _ _ _ _ _ _ _ _ _ _ _ _ _ _ _ _ _)
      | (with_reducible exact vary_Parse.mono _ _)
      | (with_reducible exact LeO.refl _)
      | (with_reducible exact LeO.none _)
      | (with_reducible refine LeO.ite ?_ ?_)
      | (with_reducible refine LeO.bind ?_ (fun _ => ?_))
      | exact ih0 _ _ _ _ _ _ _ _ _ _ _ _ _ _ _ _ _ _ _ _ _ _ _ _ _ _ _ _ _
      | exact ih1 _ _ _ _ _ _ _ _ _ _ _ _ _ _ _ _ _ _ _ _ _ _ _ _ _
      | exact ih2 _ _ _ _ _ _ _ _ _ _ _ _ _ _ _ _ _ _ _ _ _ _ _ _ _ _ _ _ _ _
      | exact age_Explicit.mono _ _ _
      | exact head_All.mono _ _ _
      | exact may_Plain.mono _ _ _ _ _
      | exact may_control.mono _ _
      | exact may_others.mono _ _ _ _ _ _ _ _ _ _ _ _ _ _ _ _ _ _ _ _ _ _ _ _ _ _
      | exact vary_Parse.mono _ _
      | exact LeO.none _
      | refine LeO.ite ?_ ?_
      | refine LeO.bind ?_ (fun _ => ?_)
    · intro y0 y1 y2 y3 y4 y5 y6 y7 y8 y9 y10 y11 y12 y13 y14 y15 y16 y17 y18 y19 y20 y21 y22 y23 y24 y25 y26 y27 y28 y29
      unfold may_Store.j0
      repeat' first
      | (with_reducible exact ih0 _ _ _ _ _ _ _ _ _ _ _ _ _ _ _ _ _ _ _ _ _ _ _ _ _ _ _ _ _)
      | (with_reducible exact ih1 _ _ _ _ _ _ _ _ _ _ _ _ _ _ _ _ _ _ _ _ _ _ _ _ _)
      | (with_reducible exact ih2 _ _ _ _ _ _ _ _ _ _ _ _ _ _ _ _ _ _ _ _ _ _ _ _ _ _ _ _ _ _)
      | (with_reducible exact age_Explicit.mono _ _ _)
      | (with_reducible exact head_All.mono _ _ _)
      | (with_reducible exact may_Plain.mono _ _ _ _ _)
      | (with_reducible exact may_control.mono _ _)
      | (with_reducible exact may_others.mono _ _ _ _ _ _ _ _ _ _ _ _ _ _ _ _ _ _ _ _ _ _ _ _ _ _)
      | (with_reducible exact vary_Parse.mono _ _)
      | (with_reducible exact LeO.refl _)
      | (with_reducible exact LeO.none _)
      | (with_reducible refine LeO.ite ?_ ?_)
      | (with_reducible refine LeO.bind ?_ (fun _ => ?_))
      | exact ih0 _ _ _ _ _ _ _ _ _ _ _ _ _ _ _ _ _ _ _ _ _ _ _ _ _ _ _ _ _
      | exact ih1 _ _ _ _ _ _ _ _ _ _ _ _ _ _ _ _ _ _ _ _ _ _ _ _ _
      | exact ih2 _ _ _ _ _ _ _ _ _ _ _ _ _ _ _ _ _ _ _ _ _ _ _ _ _ _ _ _ _ _
      | exact age_Explicit.mono _ _ _
      | exact head_All.mono _ _ _
      | exact may_Plain.mono _ _ _ _ _
      | exact may_control.mono _ _
      | exact may_others.mono _ _ _ _ _ _ _ _ _ _ _ _ _ _ _ _ _ _ _ _ _ _ _ _ _ _
      | exact vary_Parse.mono _ _
      | exact LeO.none _
      | refine LeO.ite ?_ ?_
      | refine LeO.bind ?_ (fun _ => ?_)
theorem may_Store.mono : ∀ a0 a1 a2 a3 a4 a5 a6 a7 k, LeO (may_Store.f k a0 a1 a2 a3 a4 a5 a6 a7) (may_Store.f (k + 1) a0 a1 a2 a3 a4 a5 a6 a7) := by
  intro a0 a1 a2 a3 a4 a5 a6 a7 k
  obtain ⟨ih0, ih1, ih2⟩ := may_Store.mono_l k
  unfold may_Store.f
  repeat' first
      | (with_reducible exact ih0 _ _ _ _ _ _ _ _ _ _ _ _ _ _ _ _ _ _ _ _ _ _ _ _ _ _ _ _ _)
      | (with_reducible exact ih1 _ _ _ _ _ _ _ _ _ _ _ _ _ _ _ _ _ _ _ _ _ _ _ _ _)
      | (with_reducible exact ih2 _ _ _ _ _ _ _ _ _ _ _ _ _ _ _ _ _ _ _ _ _ _ _ _ _ _ _ _ _ _)
      | (with_reducible exact age_Explicit.mono _ _ _)
      | (with_reducible exact head_All.mono _ _ _)
      | (with_reducible exact may_Plain.mono _ _ _ _ _)
      | (with_reducible exact may_control.mono _ _)
      | (with_reducible exact may_others.mono _ _ _ _ _ _ _ _ _ _ _ _ _ _ _ _ _ _ _ _ _ _ _ _ _ _)
      | (with_reducible exact vary_Parse.mono _ _)
      | (with_reducible exact LeO.refl _)
      | (with_reducible exact LeO.none _)
      | (with_reducible refine LeO.ite ?_ ?_)
      | (with_reducible refine LeO.bind ?_ (fun _ => ?_))
      | exact ih0 _ _ _ _ _ _ _ _ _ _ _ _ _ _ _ _ _ _ _ _ _ _ _ _ _ _ _ _ _
      | exact ih1 _ _ _ _ _ _ _ _ _ _ _ _ _ _ _ _ _ _ _ _ _ _ _ _ _
      | exact ih2 _ _ _ _ _ _ _ _ _ _ _ _ _ _ _ _ _ _ _ _ _ _ _ _ _ _ _ _ _ _
      | exact age_Explicit.mono _ _ _
      | exact head_All.mono _ _ _
      | exact may_Plain.mono _ _ _ _ _
      | exact may_control.mono _ _
      | exact may_others.mono _ _ _ _ _ _ _ _ _ _ _ _ _ _ _ _ _ _ _ _ _ _ _ _ _ _
      | exact vary_Parse.mono _ _
      | exact LeO.none _
      | refine LeO.ite ?_ ?_
      | refine LeO.bind ?_ (fun _ => ?_)
set_option maxHeartbeats 8000000 in
set_option maxRecDepth 100000 in
theorem may_Store.calls (k : Nat) (a0 : Bool) (a1_0 : ByteArray) (a1_1 : ByteArray) (a1_2 : ByteArray) (A1_3 : Option Addr) (c1_3 : Nat) (l1_3 : List (S42)) (a2_0 : Int) (A2_1 : Option Addr) (c2_1 : Nat) (l2_1 : List (S42)) (A2_2 : Option Addr) (c2_2 : Nat) (l2_2 : List Int) (r : Int) (w : World) (hr1_3 : Kd.C k42 w A1_3 l1_3.length l1_3) (hc1_3 : l1_3.length ≤ c1_3) (hr2_1 : Kd.C k42 w A2_1 l2_1.length l2_1) (hc2_1 : l2_1.length ≤ c2_1) (hr2_2 : Kd.C (Kd.int .u8) w A2_2 l2_2.length l2_2) (hc2_2 : l2_2.length ≤ c2_2) (h : may_Store.f k a0 a1_0 a1_1 a1_2 l1_3 a2_0 l2_1 l2_2 = some r) :
    Calls Tryd.prog 9 #[.bool a0, .agg #[.string a1_0, .string a1_1, .string a1_2, .slice A1_3 l1_3.length c1_3], .agg #[.int .i64 a2_0, .slice A2_1 l2_1.length c2_1, .slice A2_2 l2_2.length c2_2]] w fun e w' => e = .returned (.int .i64 r) ∧ Below w.heap.size w w' := by
  have kr0 : ∀ (b0 : Bool) (v1 : Value) (W : World), (Instr.field 50 (.agg #[.bool b0, v1]) 0).run Tryd.prog W = .ok (.bool b0) W := by intros; kernel_rfl
  have kf0 : ∀ (b0 b1 b2 b3 b4 b5 b6 b7 b8 b9 b10 b11 b13 b15 b17 b19 : Bool) (b12 b14 b16 b18 b20 : Int) (W : World), (Instr.field 35 (.agg #[.bool b0, .bool b1, .bool b2, .bool b3, .bool b4, .bool b5, .bool b6, .bool b7, .bool b8, .bool b9, .bool b10, .bool b11, .int .i64 b12, .bool b13, .int .i64 b14, .bool b15, .int .i64 b16, .bool b17, .int .i64 b18, .bool b19, .int .i64 b20]) 0).run Tryd.prog W = .ok (.bool b0) W := by intros; kernel_rfl
  have hu24 := Tryd.underlying24
  have hu27 := Tryd.underlying27
  have hu35 := Tryd.underlying35
  have HR1_3 := Aside0.mk hr1_3
  have HC1_3 := Aside0.mk hc1_3
  clear hr1_3 hc1_3
  have HR2_1 := Aside0.mk hr2_1
  have HC2_1 := Aside0.mk hc2_1
  clear hr2_1 hc2_1
  have HR2_2 := Aside0.mk hr2_2
  have HC2_2 := Aside0.mk hc2_2
  clear hr2_2 hc2_2
  have HB := Aside0.mk (Below.refl w.heap.size w)
  have H : ((may_control.f k l2_1).bind fun bt182 => ((may_Plain.f k a1_0 a1_1 a1_2 l1_3).bind fun t204 => (if t204 = true then (if a2_0 < 200 then (may_Store.j0 k a0 true a1_0 a1_1 a1_2 l1_3 a2_0 l2_1 l2_2 bt182.1 bt182.2.1 bt182.2.2.1 bt182.2.2.2.1 bt182.2.2.2.2.1 bt182.2.2.2.2.2.1 bt182.2.2.2.2.2.2.1 bt182.2.2.2.2.2.2.2.1 bt182.2.2.2.2.2.2.2.2.1 bt182.2.2.2.2.2.2.2.2.2.1 bt182.2.2.2.2.2.2.2.2.2.2.1 bt182.2.2.2.2.2.2.2.2.2.2.2.1 bt182.2.2.2.2.2.2.2.2.2.2.2.2.1 bt182.2.2.2.2.2.2.2.2.2.2.2.2.2.1 bt182.2.2.2.2.2.2.2.2.2.2.2.2.2.2.1 bt182.2.2.2.2.2.2.2.2.2.2.2.2.2.2.2.1 bt182.2.2.2.2.2.2.2.2.2.2.2.2.2.2.2.2.1 bt182.2.2.2.2.2.2.2.2.2.2.2.2.2.2.2.2.2.1 bt182.2.2.2.2.2.2.2.2.2.2.2.2.2.2.2.2.2.2.1 bt182.2.2.2.2.2.2.2.2.2.2.2.2.2.2.2.2.2.2.2.1 bt182.2.2.2.2.2.2.2.2.2.2.2.2.2.2.2.2.2.2.2.2) else (if a2_0 = 206 then (may_Store.j0 k a0 true a1_0 a1_1 a1_2 l1_3 a2_0 l2_1 l2_2 bt182.1 bt182.2.1 bt182.2.2.1 bt182.2.2.2.1 bt182.2.2.2.2.1 bt182.2.2.2.2.2.1 bt182.2.2.2.2.2.2.1 bt182.2.2.2.2.2.2.2.1 bt182.2.2.2.2.2.2.2.2.1 bt182.2.2.2.2.2.2.2.2.2.1 bt182.2.2.2.2.2.2.2.2.2.2.1 bt182.2.2.2.2.2.2.2.2.2.2.2.1 bt182.2.2.2.2.2.2.2.2.2.2.2.2.1 bt182.2.2.2.2.2.2.2.2.2.2.2.2.2.1 bt182.2.2.2.2.2.2.2.2.2.2.2.2.2.2.1 bt182.2.2.2.2.2.2.2.2.2.2.2.2.2.2.2.1 bt182.2.2.2.2.2.2.2.2.2.2.2.2.2.2.2.2.1 bt182.2.2.2.2.2.2.2.2.2.2.2.2.2.2.2.2.2.1 bt182.2.2.2.2.2.2.2.2.2.2.2.2.2.2.2.2.2.2.1 bt182.2.2.2.2.2.2.2.2.2.2.2.2.2.2.2.2.2.2.2.1 bt182.2.2.2.2.2.2.2.2.2.2.2.2.2.2.2.2.2.2.2.2) else (may_Store.j0 k a0 (a2_0 == 304) a1_0 a1_1 a1_2 l1_3 a2_0 l2_1 l2_2 bt182.1 bt182.2.1 bt182.2.2.1 bt182.2.2.2.1 bt182.2.2.2.2.1 bt182.2.2.2.2.2.1 bt182.2.2.2.2.2.2.1 bt182.2.2.2.2.2.2.2.1 bt182.2.2.2.2.2.2.2.2.1 bt182.2.2.2.2.2.2.2.2.2.1 bt182.2.2.2.2.2.2.2.2.2.2.1 bt182.2.2.2.2.2.2.2.2.2.2.2.1 bt182.2.2.2.2.2.2.2.2.2.2.2.2.1 bt182.2.2.2.2.2.2.2.2.2.2.2.2.2.1 bt182.2.2.2.2.2.2.2.2.2.2.2.2.2.2.1 bt182.2.2.2.2.2.2.2.2.2.2.2.2.2.2.2.1 bt182.2.2.2.2.2.2.2.2.2.2.2.2.2.2.2.2.1 bt182.2.2.2.2.2.2.2.2.2.2.2.2.2.2.2.2.2.1 bt182.2.2.2.2.2.2.2.2.2.2.2.2.2.2.2.2.2.2.1 bt182.2.2.2.2.2.2.2.2.2.2.2.2.2.2.2.2.2.2.2.1 bt182.2.2.2.2.2.2.2.2.2.2.2.2.2.2.2.2.2.2.2.2))) else (some 1)))) = some r := h
  clear h
  replace H := Option.bind_eq_some_iff.mp H
  obtain ⟨⟨t182, t183, t184, t185, t186, t187, t188, t189, t190, t191, t192, t193, t194, t195, t196, t197, t198, t199, t200, t201, t202⟩, A40, H⟩ := H
  replace H : ((may_Plain.f k a1_0 a1_1 a1_2 l1_3).bind fun t204 => (if t204 = true then (if a2_0 < 200 then (may_Store.j0 k a0 true a1_0 a1_1 a1_2 l1_3 a2_0 l2_1 l2_2 t182 t183 t184 t185 t186 t187 t188 t189 t190 t191 t192 t193 t194 t195 t196 t197 t198 t199 t200 t201 t202) else (if a2_0 = 206 then (may_Store.j0 k a0 true a1_0 a1_1 a1_2 l1_3 a2_0 l2_1 l2_2 t182 t183 t184 t185 t186 t187 t188 t189 t190 t191 t192 t193 t194 t195 t196 t197 t198 t199 t200 t201 t202) else (may_Store.j0 k a0 (a2_0 == 304) a1_0 a1_1 a1_2 l1_3 a2_0 l2_1 l2_2 t182 t183 t184 t185 t186 t187 t188 t189 t190 t191 t192 t193 t194 t195 t196 t197 t198 t199 t200 t201 t202))) else (some 1))) = some r := H
  have A4 := Aside0.mk A40
  clear A40
  have HC5 := Aside0.mk H
  clear H
  go_enter Tryd.func9, Tryd.ntmps9
  go_upto_block 0 with (first | ((with_reducible refine gate_dst (N := 4) rfl ?_); refine box_event ?hg (N := 4) ?hd (cs := #[.string a1_0, .string a1_1, .string a1_2, .slice A1_3 l1_3.length c1_3]) (t := 24) ?hr ?_; (case hd => rfl); (case hg => rfl); (case hr => first | (go_simp; done) | (go_simp; rfl)); intro gb180 hg w6 hbox hb; have n0_ := Aside0.mk (below_step (by repeat (first | (with_reducible first | exact HB.out | apply below_alloc | apply pw_below_drewN | apply below_drew1) | exact HB.out)) hb); have n1_ := Aside0.mk (hbox); have n2_ := Aside0.mk ((by rw [hg]; exact (below_size (by repeat (first | (with_reducible first | exact HB.out | apply below_alloc | apply pw_below_drewN | apply below_drew1) | exact HB.out))) : w.heap.size ≤ gb180)); have n3_ := Aside0.mk ((by rw [hg]; exact (below_size (by repeat (first | (with_reducible first | exact HB.out | apply below_alloc | apply pw_below_drewN | apply below_drew1) | exact HB.out))) : w.heap.size ≤ gb180)); clear HB; have HB := n0_; have BK180 := n1_; have GW180 := n2_; have GE180 := n3_; clear n0_ n1_ n2_ n3_; clear hb hbox hg) | ((with_reducible refine gate_dst (N := 5) rfl ?_); refine box_event ?hg (N := 5) ?hd (cs := #[.int .i64 a2_0, .slice A2_1 l2_1.length c2_1, .slice A2_2 l2_2.length c2_2]) (t := 27) ?hr ?_; (case hd => rfl); (case hg => rfl); (case hr => first | (go_simp; done) | (go_simp; rfl)); intro gb181 hg w7 hbox hb; have n0_ := Aside0.mk (blk_below (g := gb180) (o := .cells #[.string a1_0, .string a1_1, .string a1_2, .slice A1_3 l1_3.length c1_3] 24 (0, 0)) (by (with_reducible repeat (first | refine blk_drewN ?_ _ | refine blk_drew ?_ | refine blk_alloc ?_ _)); exact BK180.out) hb); have n1_ := Aside0.mk (below_step (by repeat (first | (with_reducible first | exact HB.out | apply below_alloc | apply pw_below_drewN | apply below_drew1 | refine below_set ?_ GE180.out) | exact HB.out)) hb); have n2_ := Aside0.mk (hbox); have n3_ := Aside0.mk ((by rw [hg]; exact (below_size (by repeat (first | (with_reducible first | exact HB.out | apply below_alloc | apply pw_below_drewN | apply below_drew1 | refine below_set ?_ GE180.out) | exact HB.out))) : w.heap.size ≤ gb181)); have n4_ := Aside0.mk ((by rw [hg]; exact (below_size (by repeat (first | (with_reducible first | exact HB.out | apply below_alloc | apply pw_below_drewN | apply below_drew1 | refine below_set ?_ GE180.out) | exact HB.out))) : w.heap.size ≤ gb181)); have n5_ := Aside0.mk ((by rw [hg]; exact Nat.ne_of_lt (blk_lt (g := gb180) (o := .cells #[.string a1_0, .string a1_1, .string a1_2, .slice A1_3 l1_3.length c1_3] 24 (0, 0)) (by (with_reducible repeat (first | refine blk_drewN ?_ _ | refine blk_drew ?_ | refine blk_alloc ?_ _)); exact BK180.out)) : gb180 ≠ gb181)); have n6_ := Aside0.mk ((by rw [hg]; exact Nat.ne_of_gt (blk_lt (g := gb180) (o := .cells #[.string a1_0, .string a1_1, .string a1_2, .slice A1_3 l1_3.length c1_3] 24 (0, 0)) (by (with_reducible repeat (first | refine blk_drewN ?_ _ | refine blk_drew ?_ | refine blk_alloc ?_ _)); exact BK180.out)) : gb181 ≠ gb180)); clear BK180; clear HB; have BK180 := n0_; have HB := n1_; have BK181 := n2_; have GW181 := n3_; have GE181 := n4_; have NB180_181 := n5_; have NB181_180 := n6_; clear n0_ n1_ n2_ n3_ n4_ n5_ n6_; clear hb hbox hg; have hnb8 := NB181_180.out; have hnc8 := NB180_181.out; have hcz9_0 : w7.cell? ⟨gb181, 0, none⟩ = some (.int .i64 a2_0) := (blk_cell BK181.out 0).trans rfl; have hcz9_1 : w7.cell? ⟨gb181, 1, none⟩ = some (.slice A2_1 l2_1.length c2_1) := (blk_cell BK181.out 1).trans rfl; have hcz9_2 : w7.cell? ⟨gb181, 2, none⟩ = some (.slice A2_2 l2_2.length c2_2) := (blk_cell BK181.out 2).trans rfl; have hfz9_0 := blk_frozen BK181.out 0; have hfz9_1 := blk_frozen BK181.out 1; have hfz9_2 := blk_frozen BK181.out 2) | ((with_reducible refine gate_callee (f := 17) rfl ?_); refine goesL_ (some 11) rfl rfl Tryd.func17 (by kernel_rfl) rfl #[.slice A2_1 l2_1.length c2_1] rfl (by (try simp only [List.map_toArray, List.map_cons, List.map_nil]); first | done | rfl | (simp only [List.length_drop, List.length_take]; rfl)) ?_; (with_reducible refine (may_control.calls k _ _ l2_1 t182 t183 t184 t185 t186 t187 t188 t189 t190 t191 t192 t193 t194 t195 t196 t197 t198 t199 t200 t201 t202 _ ?side1 ?side2 A4.out).mono ?_); (case side1 => repeat (first | exact (Kd.C_below HR2_1.out HB.out) | (with_reducible refine Kd.C_alloc ?_ _) | (with_reducible refine Kd.C_drewN ?_ _) | (with_reducible refine Kd.C_drew ?_))); (case side2 => exact HC2_1.out); rintro e w10 ⟨rfl, hb⟩; refine ⟨_, rfl, ?_⟩; have n0_ := Aside0.mk (blk_below (g := gb180) (o := .cells #[.string a1_0, .string a1_1, .string a1_2, .slice A1_3 l1_3.length c1_3] 24 (0, 0)) (by (with_reducible repeat (first | refine blk_drewN ?_ _ | refine blk_drew ?_ | refine blk_alloc ?_ _)); exact BK180.out) hb); have n1_ := Aside0.mk (blk_below (g := gb181) (o := .cells #[.int .i64 a2_0, .slice A2_1 l2_1.length c2_1, .slice A2_2 l2_2.length c2_2] 27 (0, 0)) (by (with_reducible repeat (first | refine blk_drewN ?_ _ | refine blk_drew ?_ | refine blk_alloc ?_ _)); exact BK181.out) hb); have n2_ := Aside0.mk (below_step (by repeat (first | (with_reducible first | exact HB.out | apply below_alloc | apply pw_below_drewN | apply below_drew1 | refine below_set ?_ GE180.out | refine below_set ?_ GE181.out) | exact HB.out)) hb); clear BK180; clear BK181; clear HB; have BK180 := n0_; have BK181 := n1_; have HB := n2_; clear n0_ n1_ n2_; (try clear hb); (try clear hb2); (try clear hk); (try clear hi)) | ((with_reducible refine gate_dst (N := 7) rfl ?_); refine box_event ?hg (N := 7) ?hd (cs := #[.bool false, .bool false, .bool false, .bool false, .bool false, .bool false, .bool false, .bool false, .bool false, .bool false, .bool false, .bool false, .int .i64 0, .bool false, .int .i64 0, .bool false, .int .i64 0, .bool false, .int .i64 0, .bool false, .int .i64 0]) (t := 35) ?hr ?_; (case hd => rfl); (case hg => rfl); (case hr => first | (go_simp; done) | (go_simp; rfl)); intro gb203 hg w11 hbox hb; have n0_ := Aside0.mk (blk_below (g := gb180) (o := .cells #[.string a1_0, .string a1_1, .string a1_2, .slice A1_3 l1_3.length c1_3] 24 (0, 0)) (by (with_reducible repeat (first | refine blk_drewN ?_ _ | refine blk_drew ?_ | refine blk_alloc ?_ _)); exact BK180.out) hb); have n1_ := Aside0.mk (blk_below (g := gb181) (o := .cells #[.int .i64 a2_0, .slice A2_1 l2_1.length c2_1, .slice A2_2 l2_2.length c2_2] 27 (0, 0)) (by (with_reducible repeat (first | refine blk_drewN ?_ _ | refine blk_drew ?_ | refine blk_alloc ?_ _)); exact BK181.out) hb); have n2_ := Aside0.mk (below_step (by repeat (first | (with_reducible first | exact HB.out | apply below_alloc | apply pw_below_drewN | apply below_drew1 | refine below_set ?_ GE180.out | refine below_set ?_ GE181.out) | exact HB.out)) hb); have n3_ := Aside0.mk (hbox); have n4_ := Aside0.mk ((by rw [hg]; exact (below_size (by repeat (first | (with_reducible first | exact HB.out | apply below_alloc | apply pw_below_drewN | apply below_drew1 | refine below_set ?_ GE180.out | refine below_set ?_ GE181.out) | exact HB.out))) : w.heap.size ≤ gb203)); have n5_ := Aside0.mk ((by rw [hg]; exact (below_size (by repeat (first | (with_reducible first | exact HB.out | apply below_alloc | apply pw_below_drewN | apply below_drew1 | refine below_set ?_ GE180.out | refine below_set ?_ GE181.out) | exact HB.out))) : w.heap.size ≤ gb203)); have n6_ := Aside0.mk ((by rw [hg]; exact Nat.ne_of_lt (blk_lt (g := gb180) (o := .cells #[.string a1_0, .string a1_1, .string a1_2, .slice A1_3 l1_3.length c1_3] 24 (0, 0)) (by (with_reducible repeat (first | refine blk_drewN ?_ _ | refine blk_drew ?_ | refine blk_alloc ?_ _)); exact BK180.out)) : gb180 ≠ gb203)); have n7_ := Aside0.mk ((by rw [hg]; exact Nat.ne_of_gt (blk_lt (g := gb180) (o := .cells #[.string a1_0, .string a1_1, .string a1_2, .slice A1_3 l1_3.length c1_3] 24 (0, 0)) (by (with_reducible repeat (first | refine blk_drewN ?_ _ | refine blk_drew ?_ | refine blk_alloc ?_ _)); exact BK180.out)) : gb203 ≠ gb180)); have n8_ := Aside0.mk ((by rw [hg]; exact Nat.ne_of_lt (blk_lt (g := gb181) (o := .cells #[.int .i64 a2_0, .slice A2_1 l2_1.length c2_1, .slice A2_2 l2_2.length c2_2] 27 (0, 0)) (by (with_reducible repeat (first | refine blk_drewN ?_ _ | refine blk_drew ?_ | refine blk_alloc ?_ _)); exact BK181.out)) : gb181 ≠ gb203)); have n9_ := Aside0.mk ((by rw [hg]; exact Nat.ne_of_gt (blk_lt (g := gb181) (o := .cells #[.int .i64 a2_0, .slice A2_1 l2_1.length c2_1, .slice A2_2 l2_2.length c2_2] 27 (0, 0)) (by (with_reducible repeat (first | refine blk_drewN ?_ _ | refine blk_drew ?_ | refine blk_alloc ?_ _)); exact BK181.out)) : gb203 ≠ gb181)); clear BK180; clear BK181; clear HB; have BK180 := n0_; have BK181 := n1_; have HB := n2_; have BK203 := n3_; have GW203 := n4_; have GE203 := n5_; have NB180_203 := n6_; have NB203_180 := n7_; have NB181_203 := n8_; have NB203_181 := n9_; clear n0_ n1_ n2_ n3_ n4_ n5_ n6_ n7_ n8_ n9_; clear hb hbox hg; have hnb12 := NB203_180.out; have hnc12 := NB180_203.out; have hnb13 := NB203_181.out; have hnc13 := NB181_203.out; have hcz14_0 : w11.cell? ⟨gb203, 0, none⟩ = some (.bool false) := (blk_cell BK203.out 0).trans rfl; have hcz14_1 : w11.cell? ⟨gb203, 1, none⟩ = some (.bool false) := (blk_cell BK203.out 1).trans rfl; have hcz14_2 : w11.cell? ⟨gb203, 2, none⟩ = some (.bool false) := (blk_cell BK203.out 2).trans rfl; have hcz14_3 : w11.cell? ⟨gb203, 3, none⟩ = some (.bool false) := (blk_cell BK203.out 3).trans rfl; have hcz14_4 : w11.cell? ⟨gb203, 4, none⟩ = some (.bool false) := (blk_cell BK203.out 4).trans rfl; have hcz14_5 : w11.cell? ⟨gb203, 5, none⟩ = some (.bool false) := (blk_cell BK203.out 5).trans rfl; have hcz14_6 : w11.cell? ⟨gb203, 6, none⟩ = some (.bool false) := (blk_cell BK203.out 6).trans rfl; have hcz14_7 : w11.cell? ⟨gb203, 7, none⟩ = some (.bool false) := (blk_cell BK203.out 7).trans rfl; have hcz14_8 : w11.cell? ⟨gb203, 8, none⟩ = some (.bool false) := (blk_cell BK203.out 8).trans rfl; have hcz14_9 : w11.cell? ⟨gb203, 9, none⟩ = some (.bool false) := (blk_cell BK203.out 9).trans rfl; have hcz14_10 : w11.cell? ⟨gb203, 10, none⟩ = some (.bool false) := (blk_cell BK203.out 10).trans rfl; have hcz14_11 : w11.cell? ⟨gb203, 11, none⟩ = some (.bool false) := (blk_cell BK203.out 11).trans rfl; have hcz14_12 : w11.cell? ⟨gb203, 12, none⟩ = some (.int .i64 0) := (blk_cell BK203.out 12).trans rfl; have hcz14_13 : w11.cell? ⟨gb203, 13, none⟩ = some (.bool false) := (blk_cell BK203.out 13).trans rfl; have hcz14_14 : w11.cell? ⟨gb203, 14, none⟩ = some (.int .i64 0) := (blk_cell BK203.out 14).trans rfl; have hcz14_15 : w11.cell? ⟨gb203, 15, none⟩ = some (.bool false) := (blk_cell BK203.out 15).trans rfl; have hcz14_16 : w11.cell? ⟨gb203, 16, none⟩ = some (.int .i64 0) := (blk_cell BK203.out 16).trans rfl; have hcz14_17 : w11.cell? ⟨gb203, 17, none⟩ = some (.bool false) := (blk_cell BK203.out 17).trans rfl; have hcz14_18 : w11.cell? ⟨gb203, 18, none⟩ = some (.int .i64 0) := (blk_cell BK203.out 18).trans rfl; have hcz14_19 : w11.cell? ⟨gb203, 19, none⟩ = some (.bool false) := (blk_cell BK203.out 19).trans rfl; have hcz14_20 : w11.cell? ⟨gb203, 20, none⟩ = some (.int .i64 0) := (blk_cell BK203.out 20).trans rfl; have hfz14_0 := blk_frozen BK203.out 0; have hfz14_1 := blk_frozen BK203.out 1; have hfz14_2 := blk_frozen BK203.out 2; have hfz14_3 := blk_frozen BK203.out 3; have hfz14_4 := blk_frozen BK203.out 4; have hfz14_5 := blk_frozen BK203.out 5; have hfz14_6 := blk_frozen BK203.out 6; have hfz14_7 := blk_frozen BK203.out 7; have hfz14_8 := blk_frozen BK203.out 8; have hfz14_9 := blk_frozen BK203.out 9; have hfz14_10 := blk_frozen BK203.out 10; have hfz14_11 := blk_frozen BK203.out 11; have hfz14_12 := blk_frozen BK203.out 12; have hfz14_13 := blk_frozen BK203.out 13; have hfz14_14 := blk_frozen BK203.out 14; have hfz14_15 := blk_frozen BK203.out 15; have hfz14_16 := blk_frozen BK203.out 16; have hfz14_17 := blk_frozen BK203.out 17; have hfz14_18 := blk_frozen BK203.out 18; have hfz14_19 := blk_frozen BK203.out 19; have hfz14_20 := blk_frozen BK203.out 20) | ((with_reducible refine gate_store (t := 35) rfl ?_); refine wpList_store_row rfl 35 _ _ rfl _ #[.bool t182, .bool t183, .bool t184, .bool t185, .bool t186, .bool t187, .bool t188, .bool t189, .bool t190, .bool t191, .bool t192, .bool t193, .int .i64 t194, .bool t195, .int .i64 t196, .bool t197, .int .i64 t198, .bool t199, .int .i64 t200, .bool t201, .int .i64 t202] rfl rfl 35 _ BK203.out (by kernel_rfl) rfl (by simp [Value.oneCell']) ?_; obtain ⟨wrow, hwrow⟩ : ∃ wr_, wr_ = World.setRow w11 gb203 #[.bool t182, .bool t183, .bool t184, .bool t185, .bool t186, .bool t187, .bool t188, .bool t189, .bool t190, .bool t191, .bool t192, .bool t193, .int .i64 t194, .bool t195, .int .i64 t196, .bool t197, .int .i64 t198, .bool t199, .int .i64 t200, .bool t201, .int .i64 t202] := ⟨_, rfl⟩; rw [← hwrow]; have n0_ := Aside0.mk (by rw [hwrow]; exact may_control.below HB.out GW203.out _ : Below w.heap.size w wrow); have n1_ := Aside0.mk (by rw [hwrow]; exact setRow_heap _ _ _ _ _ _ BK203.out : wrow.heap[gb203]? = some (.cells #[.bool t182, .bool t183, .bool t184, .bool t185, .bool t186, .bool t187, .bool t188, .bool t189, .bool t190, .bool t191, .bool t192, .bool t193, .int .i64 t194, .bool t195, .int .i64 t196, .bool t197, .int .i64 t198, .bool t199, .int .i64 t200, .bool t201, .int .i64 t202] 35 (0, 0))); have q2_ := (setRow_other w11 gb203 gb180 #[.bool t182, .bool t183, .bool t184, .bool t185, .bool t186, .bool t187, .bool t188, .bool t189, .bool t190, .bool t191, .bool t192, .bool t193, .int .i64 t194, .bool t195, .int .i64 t196, .bool t197, .int .i64 t198, .bool t199, .int .i64 t200, .bool t201, .int .i64 t202] NB180_203.out).trans BK180.out; rw [← hwrow] at q2_; have n2_ := Aside0.mk q2_; clear q2_; have q3_ := (setRow_other w11 gb203 gb181 #[.bool t182, .bool t183, .bool t184, .bool t185, .bool t186, .bool t187, .bool t188, .bool t189, .bool t190, .bool t191, .bool t192, .bool t193, .int .i64 t194, .bool t195, .int .i64 t196, .bool t197, .int .i64 t198, .bool t199, .int .i64 t200, .bool t201, .int .i64 t202] NB181_203.out).trans BK181.out; rw [← hwrow] at q3_; have n3_ := Aside0.mk q3_; clear q3_; clear hwrow HB BK203 BK180 BK181; have HB := n0_; have BK203 := n1_; have BK180 := n2_; have BK181 := n3_; clear n0_ n1_ n2_ n3_ hcz14_0 hfz14_0 hcz14_1 hfz14_1 hcz14_2 hfz14_2 hcz14_3 hfz14_3 hcz14_4 hfz14_4 hcz14_5 hfz14_5 hcz14_6 hfz14_6 hcz14_7 hfz14_7 hcz14_8 hfz14_8 hcz14_9 hfz14_9 hcz14_10 hfz14_10 hcz14_11 hfz14_11 hcz14_12 hfz14_12 hcz14_13 hfz14_13 hcz14_14 hfz14_14 hcz14_15 hfz14_15 hcz14_16 hfz14_16 hcz14_17 hfz14_17 hcz14_18 hfz14_18 hcz14_19 hfz14_19 hcz14_20 hfz14_20))
  (try simp only [Act.put, List.setIfInBounds_toArray, List.set_cons_zero, List.set_cons_succ])
  go_cut [] (fun wc => ∃ (kq : Nat), Aside0 (may_Store.j1 kq a0 a1_0 a1_1 a1_2 l1_3 a2_0 l2_1 l2_2 t182 t183 t184 t185 t186 t187 t188 t189 t190 t191 t192 t193 t194 t195 t196 t197 t198 t199 t200 t201 t202 = some r) ∧ Aside0 (kq ≤ k) ∧ Aside0 (wc.heap[gb180]? = some (.cells #[.string a1_0, .string a1_1, .string a1_2, (.slice A1_3 l1_3.length c1_3)] 24 (0, 0))) ∧ Aside0 (wc.heap[gb181]? = some (.cells #[.int .i64 a2_0, (.slice A2_1 l2_1.length c2_1), (.slice A2_2 l2_2.length c2_2)] 27 (0, 0))) ∧ Aside0 (wc.heap[gb203]? = some (.cells #[.bool t182, .bool t183, .bool t184, .bool t185, .bool t186, .bool t187, .bool t188, .bool t189, .bool t190, .bool t191, .bool t192, .bool t193, .int .i64 t194, .bool t195, .int .i64 t196, .bool t197, .int .i64 t198, .bool t199, .int .i64 t200, .bool t201, .int .i64 t202] 35 (0, 0))) ∧ Aside0 (Below w.heap.size w wc))
  case first =>
    have H := HC5.out
    clear HC5
    replace H := Option.bind_eq_some_iff.mp H
    obtain ⟨t204, A150, H⟩ := H
    replace H : (if t204 = true then (if a2_0 < 200 then (may_Store.j0 k a0 true a1_0 a1_1 a1_2 l1_3 a2_0 l2_1 l2_2 t182 t183 t184 t185 t186 t187 t188 t189 t190 t191 t192 t193 t194 t195 t196 t197 t198 t199 t200 t201 t202) else (if a2_0 = 206 then (may_Store.j0 k a0 true a1_0 a1_1 a1_2 l1_3 a2_0 l2_1 l2_2 t182 t183 t184 t185 t186 t187 t188 t189 t190 t191 t192 t193 t194 t195 t196 t197 t198 t199 t200 t201 t202) else (may_Store.j0 k a0 (a2_0 == 304) a1_0 a1_1 a1_2 l1_3 a2_0 l2_1 l2_2 t182 t183 t184 t185 t186 t187 t188 t189 t190 t191 t192 t193 t194 t195 t196 t197 t198 t199 t200 t201 t202))) else (some 1)) = some r := H
    have A15 := Aside0.mk A150
    clear A150
    by_cases c16 : t204 = true
    · subst c16
      have H1 : (if a2_0 < 200 then (may_Store.j0 k a0 true a1_0 a1_1 a1_2 l1_3 a2_0 l2_1 l2_2 t182 t183 t184 t185 t186 t187 t188 t189 t190 t191 t192 t193 t194 t195 t196 t197 t198 t199 t200 t201 t202) else (if a2_0 = 206 then (may_Store.j0 k a0 true a1_0 a1_1 a1_2 l1_3 a2_0 l2_1 l2_2 t182 t183 t184 t185 t186 t187 t188 t189 t190 t191 t192 t193 t194 t195 t196 t197 t198 t199 t200 t201 t202) else (may_Store.j0 k a0 (a2_0 == 304) a1_0 a1_1 a1_2 l1_3 a2_0 l2_1 l2_2 t182 t183 t184 t185 t186 t187 t188 t189 t190 t191 t192 t193 t194 t195 t196 t197 t198 t199 t200 t201 t202))) = some r := by rw [if_pos rfl] at H; exact H
      clear H
      have H := H1
      clear H1
      have HC17 := Aside0.mk H
      clear H
      have hnb18 := NB180_181.out
      have hnc18 := NB181_180.out
      have hnb19 := NB180_203.out
      have hnc19 := NB203_180.out
      have hcz20_0 : wrow.cell? ⟨gb180, 0, none⟩ = some (.string a1_0) := (blk_cell BK180.out 0).trans rfl
      have hcz20_1 : wrow.cell? ⟨gb180, 1, none⟩ = some (.string a1_1) := (blk_cell BK180.out 1).trans rfl
      have hcz20_2 : wrow.cell? ⟨gb180, 2, none⟩ = some (.string a1_2) := (blk_cell BK180.out 2).trans rfl
      have hcz20_3 : wrow.cell? ⟨gb180, 3, none⟩ = some (.slice A1_3 l1_3.length c1_3) := (blk_cell BK180.out 3).trans rfl
      have hfz20_0 := blk_frozen BK180.out 0
      have hfz20_1 := blk_frozen BK180.out 1
      have hfz20_2 := blk_frozen BK180.out 2
      have hfz20_3 := blk_frozen BK180.out 3
      go_upto_region 4 with (first | ((with_reducible refine gate_store (t := 35) rfl ?_); refine wpList_store_row rfl 35 _ _ rfl _ _ rfl rfl 35 _ (by first | exact blk_new _ _ | exact blk_alloc (blk_new _ _) _) (by kernel_rfl) rfl (by simp [Value.oneCell']) ?_; (first | rw [Own.alloc_setRow] | rw [Own.alloc2_setRow0] | rw [Own.alloc2_setRow1])) | ((with_reducible refine gate_callee (f := 13) rfl ?_); refine goesL_ (some 14) rfl rfl Tryd.func13 (by kernel_rfl) rfl #[.agg #[.string a1_0, .string a1_1, .string a1_2, .slice A1_3 l1_3.length c1_3]] rfl (by (try simp only [List.map_toArray, List.map_cons, List.map_nil]); first | done | rfl | (simp only [List.length_drop, List.length_take]; rfl)) ?_; (with_reducible refine (may_Plain.calls k a1_0 a1_1 a1_2 _ _ l1_3 true _ ?side1 ?side2 A15.out).mono ?_); (case side1 => exact Kd.C_below HR1_3.out (by repeat (first | (with_reducible first | exact HB.out | apply below_alloc | apply pw_below_drewN | apply below_drew1 | refine below_set ?_ GE180.out | refine below_set ?_ GE181.out | refine below_set ?_ GE203.out) | exact HB.out))); (case side2 => exact HC1_3.out); rintro e w21 ⟨rfl, hb⟩; refine ⟨_, rfl, ?_⟩; have n0_ := Aside0.mk (blk_below (g := gb180) (o := .cells #[.string a1_0, .string a1_1, .string a1_2, .slice A1_3 l1_3.length c1_3] 24 (0, 0)) (by (with_reducible repeat (first | refine blk_drewN ?_ _ | refine blk_drew ?_ | refine blk_alloc ?_ _)); exact BK180.out) hb); have n1_ := Aside0.mk (blk_below (g := gb181) (o := .cells #[.int .i64 a2_0, .slice A2_1 l2_1.length c2_1, .slice A2_2 l2_2.length c2_2] 27 (0, 0)) (by (with_reducible repeat (first | refine blk_drewN ?_ _ | refine blk_drew ?_ | refine blk_alloc ?_ _)); exact BK181.out) hb); have n2_ := Aside0.mk (blk_below (g := gb203) (o := .cells #[.bool t182, .bool t183, .bool t184, .bool t185, .bool t186, .bool t187, .bool t188, .bool t189, .bool t190, .bool t191, .bool t192, .bool t193, .int .i64 t194, .bool t195, .int .i64 t196, .bool t197, .int .i64 t198, .bool t199, .int .i64 t200, .bool t201, .int .i64 t202] 35 (0, 0)) (by (with_reducible repeat (first | refine blk_drewN ?_ _ | refine blk_drew ?_ | refine blk_alloc ?_ _)); exact BK203.out) hb); have n3_ := Aside0.mk (below_step (by repeat (first | (with_reducible first | exact HB.out | apply below_alloc | apply pw_below_drewN | apply below_drew1 | refine below_set ?_ GE180.out | refine below_set ?_ GE181.out | refine below_set ?_ GE203.out) | exact HB.out)) hb); clear BK180; clear BK181; clear BK203; clear HB; have BK180 := n0_; have BK181 := n1_; have BK203 := n2_; have HB := n3_; clear n0_ n1_ n2_ n3_; (try clear hb); (try clear hb2); (try clear hk); (try clear hi)))
      (try simp only [Act.put, List.setIfInBounds_toArray, List.set_cons_zero, List.set_cons_succ])
      go_cut [16] (fun v16 wc => ∃ (kq : Nat) (x16_16 : Bool), v16 = .bool x16_16 ∧ Aside0 (may_Store.j0 kq a0 x16_16 a1_0 a1_1 a1_2 l1_3 a2_0 l2_1 l2_2 t182 t183 t184 t185 t186 t187 t188 t189 t190 t191 t192 t193 t194 t195 t196 t197 t198 t199 t200 t201 t202 = some r) ∧ Aside0 (kq ≤ k) ∧ Aside0 (wc.heap[gb180]? = some (.cells #[.string a1_0, .string a1_1, .string a1_2, (.slice A1_3 l1_3.length c1_3)] 24 (0, 0))) ∧ Aside0 (wc.heap[gb181]? = some (.cells #[.int .i64 a2_0, (.slice A2_1 l2_1.length c2_1), (.slice A2_2 l2_2.length c2_2)] 27 (0, 0))) ∧ Aside0 (wc.heap[gb203]? = some (.cells #[.bool t182, .bool t183, .bool t184, .bool t185, .bool t186, .bool t187, .bool t188, .bool t189, .bool t190, .bool t191, .bool t192, .bool t193, .int .i64 t194, .bool t195, .int .i64 t196, .bool t197, .int .i64 t198, .bool t199, .int .i64 t200, .bool t201, .int .i64 t202] 35 (0, 0))) ∧ Aside0 (Below w.heap.size w wc))
      case first =>
        have H := HC17.out
        clear HC17
        by_cases c22 : a2_0 < 200
        · rw [if_pos c22] at H
          have c22b0 : decide (a2_0 < 200) = true := decide_eq_true c22
          clear c22
          (first | rw [c22b0] | (simp only [i64_w, i32_w]; rw [c22b0]) | skip)
          have H' := Aside0.mk H
          clear H
          have hnb23 := NB181_180.out
          have hnc23 := NB180_181.out
          have hnb24 := NB181_203.out
          have hnc24 := NB203_181.out
          have hcz25_0 : w21.cell? ⟨gb181, 0, none⟩ = some (.int .i64 a2_0) := (blk_cell BK181.out 0).trans rfl
          have hcz25_1 : w21.cell? ⟨gb181, 1, none⟩ = some (.slice A2_1 l2_1.length c2_1) := (blk_cell BK181.out 1).trans rfl
          have hcz25_2 : w21.cell? ⟨gb181, 2, none⟩ = some (.slice A2_2 l2_2.length c2_2) := (blk_cell BK181.out 2).trans rfl
          have hfz25_0 := blk_frozen BK181.out 0
          have hfz25_1 := blk_frozen BK181.out 1
          have hfz25_2 := blk_frozen BK181.out 2
          go_wp2_with (first | ((with_reducible refine gate_store (t := 35) rfl ?_); refine wpList_store_row rfl 35 _ _ rfl _ _ rfl rfl 35 _ (by first | exact blk_new _ _ | exact blk_alloc (blk_new _ _) _) (by kernel_rfl) rfl (by simp [Value.oneCell']) ?_; (first | rw [Own.alloc_setRow] | rw [Own.alloc2_setRow0] | rw [Own.alloc2_setRow1])))
          go_meet
          case rel => exact ⟨_, (true), (by first | rfl | (simp; done) | (simp [*]; done)), H', ⟨by first | omega | exact Nat.le_refl _⟩, ⟨by (with_reducible repeat (first | refine blk_drewN ?_ _ | refine blk_drew ?_ | refine blk_alloc ?_ _)); exact BK180.out⟩, ⟨by (with_reducible repeat (first | refine blk_drewN ?_ _ | refine blk_drew ?_ | refine blk_alloc ?_ _)); exact BK181.out⟩, ⟨by (with_reducible repeat (first | refine blk_drewN ?_ _ | refine blk_drew ?_ | refine blk_alloc ?_ _)); exact BK203.out⟩, ⟨by repeat (first | (with_reducible first | exact HB.out | apply below_alloc | apply pw_below_drewN | apply below_drew1 | refine below_set ?_ GE180.out | refine below_set ?_ GE181.out | refine below_set ?_ GE203.out) | exact HB.out)⟩⟩
        · rw [if_neg c22] at H
          have c22b0 : decide (a2_0 < 200) = false := decide_eq_false c22
          clear c22
          (first | rw [c22b0] | (simp only [i64_w, i32_w]; rw [c22b0]) | skip)
          by_cases c26 : a2_0 = 206
          · rw [if_pos c26] at H
            have c26b0 : (a2_0 == 206) = true := beq_iff_eq.mpr c26
            have c26b1 : (a2_0 != 206) = false := bne_eq_false_iff_eq.mpr c26
            clear c26
            have H' := Aside0.mk H
            clear H
            have hnb27 := NB181_180.out
            have hnc27 := NB180_181.out
            have hnb28 := NB181_203.out
            have hnc28 := NB203_181.out
            have hcz29_0 : w21.cell? ⟨gb181, 0, none⟩ = some (.int .i64 a2_0) := (blk_cell BK181.out 0).trans rfl
            have hcz29_1 : w21.cell? ⟨gb181, 1, none⟩ = some (.slice A2_1 l2_1.length c2_1) := (blk_cell BK181.out 1).trans rfl
            have hcz29_2 : w21.cell? ⟨gb181, 2, none⟩ = some (.slice A2_2 l2_2.length c2_2) := (blk_cell BK181.out 2).trans rfl
            have hfz29_0 := blk_frozen BK181.out 0
            have hfz29_1 := blk_frozen BK181.out 1
            have hfz29_2 := blk_frozen BK181.out 2
            go_wp2_with (first | ((with_reducible refine gate_store (t := 35) rfl ?_); refine wpList_store_row rfl 35 _ _ rfl _ _ rfl rfl 35 _ (by first | exact blk_new _ _ | exact blk_alloc (blk_new _ _) _) (by kernel_rfl) rfl (by simp [Value.oneCell']) ?_; (first | rw [Own.alloc_setRow] | rw [Own.alloc2_setRow0] | rw [Own.alloc2_setRow1])))
            go_meet
            case rel => exact ⟨_, (true), (by first | rfl | (simp; done) | (simp [*]; done)), H', ⟨by first | omega | exact Nat.le_refl _⟩, ⟨by (with_reducible repeat (first | refine blk_drewN ?_ _ | refine blk_drew ?_ | refine blk_alloc ?_ _)); exact BK180.out⟩, ⟨by (with_reducible repeat (first | refine blk_drewN ?_ _ | refine blk_drew ?_ | refine blk_alloc ?_ _)); exact BK181.out⟩, ⟨by (with_reducible repeat (first | refine blk_drewN ?_ _ | refine blk_drew ?_ | refine blk_alloc ?_ _)); exact BK203.out⟩, ⟨by repeat (first | (with_reducible first | exact HB.out | apply below_alloc | apply pw_below_drewN | apply below_drew1 | refine below_set ?_ GE180.out | refine below_set ?_ GE181.out | refine below_set ?_ GE203.out) | exact HB.out)⟩⟩
          · rw [if_neg c26] at H
            have c26b0 : (a2_0 == 206) = false := beq_eq_false_iff_ne.mpr c26
            have c26b1 : (a2_0 != 206) = true := bne_iff_ne.mpr c26
            have H' := Aside0.mk H
            clear H
            have hnb30 := NB181_180.out
            have hnc30 := NB180_181.out
            have hnb31 := NB181_203.out
            have hnc31 := NB203_181.out
            have hcz32_0 : w21.cell? ⟨gb181, 0, none⟩ = some (.int .i64 a2_0) := (blk_cell BK181.out 0).trans rfl
            have hcz32_1 : w21.cell? ⟨gb181, 1, none⟩ = some (.slice A2_1 l2_1.length c2_1) := (blk_cell BK181.out 1).trans rfl
            have hcz32_2 : w21.cell? ⟨gb181, 2, none⟩ = some (.slice A2_2 l2_2.length c2_2) := (blk_cell BK181.out 2).trans rfl
            have hfz32_0 := blk_frozen BK181.out 0
            have hfz32_1 := blk_frozen BK181.out 1
            have hfz32_2 := blk_frozen BK181.out 2
            go_wp2_with (first | ((with_reducible refine gate_store (t := 35) rfl ?_); refine wpList_store_row rfl 35 _ _ rfl _ _ rfl rfl 35 _ (by first | exact blk_new _ _ | exact blk_alloc (blk_new _ _) _) (by kernel_rfl) rfl (by simp [Value.oneCell']) ?_; (first | rw [Own.alloc_setRow] | rw [Own.alloc2_setRow0] | rw [Own.alloc2_setRow1])))
            go_meet
            case rel => exact ⟨_, ((a2_0 == 304)), (by first | rfl | (simp; done) | (simp [*]; done)), H', ⟨by first | omega | exact Nat.le_refl _⟩, ⟨by (with_reducible repeat (first | refine blk_drewN ?_ _ | refine blk_drew ?_ | refine blk_alloc ?_ _)); exact BK180.out⟩, ⟨by (with_reducible repeat (first | refine blk_drewN ?_ _ | refine blk_drew ?_ | refine blk_alloc ?_ _)); exact BK181.out⟩, ⟨by (with_reducible repeat (first | refine blk_drewN ?_ _ | refine blk_drew ?_ | refine blk_alloc ?_ _)); exact BK203.out⟩, ⟨by repeat (first | (with_reducible first | exact HB.out | apply below_alloc | apply pw_below_drewN | apply below_drew1 | refine below_set ?_ GE180.out | refine below_set ?_ GE181.out | refine below_set ?_ GE203.out) | exact HB.out)⟩⟩
      case rest =>
        clear HC17
        try clear c1
        try clear c2
        try clear p2
        try clear c3
        try clear c8
        try clear c9
        try clear c12
        try clear c13
        try clear c16
        try clear c17
        try clear c18
        try clear c19
        try clear c22
        try clear c22b0
        try clear c23
        try clear c24
        try clear c26
        try clear c26b0
        try clear c26b1
        try clear c27
        try clear c28
        try clear c30
        try clear c31
        try clear hcz14_0
        try clear hcz14_1
        try clear hcz14_10
        try clear hcz14_11
        try clear hcz14_12
        try clear hcz14_13
        try clear hcz14_14
        try clear hcz14_15
        try clear hcz14_16
        try clear hcz14_17
        try clear hcz14_18
        try clear hcz14_19
        try clear hcz14_2
        try clear hcz14_20
        try clear hcz14_3
        try clear hcz14_4
        try clear hcz14_5
        try clear hcz14_6
        try clear hcz14_7
        try clear hcz14_8
        try clear hcz14_9
        try clear hcz20_0
        try clear hcz20_1
        try clear hcz20_2
        try clear hcz20_3
        try clear hcz25_0
        try clear hcz25_1
        try clear hcz25_2
        try clear hcz29_0
        try clear hcz29_1
        try clear hcz29_2
        try clear hcz32_0
        try clear hcz32_1
        try clear hcz32_2
        try clear hcz9_0
        try clear hcz9_1
        try clear hcz9_2
        try clear hfz14_0
        try clear hfz14_1
        try clear hfz14_10
        try clear hfz14_11
        try clear hfz14_12
        try clear hfz14_13
        try clear hfz14_14
        try clear hfz14_15
        try clear hfz14_16
        try clear hfz14_17
        try clear hfz14_18
        try clear hfz14_19
        try clear hfz14_2
        try clear hfz14_20
        try clear hfz14_3
        try clear hfz14_4
        try clear hfz14_5
        try clear hfz14_6
        try clear hfz14_7
        try clear hfz14_8
        try clear hfz14_9
        try clear hfz20_0
        try clear hfz20_1
        try clear hfz20_2
        try clear hfz20_3
        try clear hfz25_0
        try clear hfz25_1
        try clear hfz25_2
        try clear hfz29_0
        try clear hfz29_1
        try clear hfz29_2
        try clear hfz32_0
        try clear hfz32_1
        try clear hfz32_2
        try clear hfz9_0
        try clear hfz9_1
        try clear hfz9_2
        obtain ⟨kq, x16_16, rfl, HA, HJ16, BK180, BK181, BK203, HB⟩ := hcut
        cases kq with
        | zero => exact absurd HA.out (by simp [may_Store.j0])
        | succ kj16 =>
          have H := HA.out
          clear HA
          simp only [may_Store.j0] at H
          by_cases c33 : x16_16 = true
          · subst c33
            have H1 : (some 2) = some r := by rw [if_pos rfl] at H; exact H
            clear H
            have H := H1
            clear H1
            obtain rfl := Option.some.inj H
            go_wp2_with (first | ((with_reducible refine gate_store (t := 35) rfl ?_); refine wpList_store_row rfl 35 _ _ rfl _ _ rfl rfl 35 _ (by first | exact blk_new _ _ | exact blk_alloc (blk_new _ _) _) (by kernel_rfl) rfl (by simp [Value.oneCell']) ?_; (first | rw [Own.alloc_setRow] | rw [Own.alloc2_setRow0] | rw [Own.alloc2_setRow1])))
            go_ret
            exact ⟨by first | rfl | (simp [errW_none, errW_some] <;> rfl) | (simp [*, errW_none, errW_some] <;> rfl), by repeat (first | (with_reducible first | exact HB.out | apply below_alloc | apply pw_below_drewN | apply below_drew1 | refine below_set ?_ GE180.out | refine below_set ?_ GE181.out | refine below_set ?_ GE203.out) | exact HB.out)⟩
          · replace c33 := Bool.eq_false_iff.mpr c33
            subst c33
            have H1 : ((may_control.f kj16 l1_3).bind fun bt205 => (if bt205.1 = true then (some 3) else (if t182 = true then (some 3) else (if t189 = true then ((age_Usual.f a2_0).bind fun t226 => (if t226 = true then (may_Store.j1 kj16 a0 a1_0 a1_1 a1_2 l1_3 a2_0 l2_1 l2_2 t182 t183 t184 t185 t186 t187 t188 t189 t190 t191 t192 t193 t194 t195 t196 t197 t198 t199 t200 t201 t202) else (some 3))) else (may_Store.j1 kj16 a0 a1_0 a1_1 a1_2 l1_3 a2_0 l2_1 l2_2 t182 t183 t184 t185 t186 t187 t188 t189 t190 t191 t192 t193 t194 t195 t196 t197 t198 t199 t200 t201 t202))))) = some r := by rw [if_neg (show ¬ (false = true) by decide)] at H; exact H
            clear H
            have H := H1
            clear H1
            replace H := Option.bind_eq_some_iff.mp H
            obtain ⟨⟨t205, t206, t207, t208, t209, t210, t211, t212, t213, t214, t215, t216, t217, t218, t219, t220, t221, t222, t223, t224, t225⟩, A340, H⟩ := H
            replace H : (if t205 = true then (some 3) else (if t182 = true then (some 3) else (if t189 = true then ((age_Usual.f a2_0).bind fun t226 => (if t226 = true then (may_Store.j1 kj16 a0 a1_0 a1_1 a1_2 l1_3 a2_0 l2_1 l2_2 t182 t183 t184 t185 t186 t187 t188 t189 t190 t191 t192 t193 t194 t195 t196 t197 t198 t199 t200 t201 t202) else (some 3))) else (may_Store.j1 kj16 a0 a1_0 a1_1 a1_2 l1_3 a2_0 l2_1 l2_2 t182 t183 t184 t185 t186 t187 t188 t189 t190 t191 t192 t193 t194 t195 t196 t197 t198 t199 t200 t201 t202)))) = some r := H
            have A34 := Aside0.mk A340
            clear A340
            by_cases c35 : t205 = true
            · subst c35
              have H1 : (some 3) = some r := by rw [if_pos rfl] at H; exact H
              clear H
              have H := H1
              clear H1
              obtain rfl := Option.some.inj H
              have hnb36 := NB180_181.out
              have hnc36 := NB181_180.out
              have hnb37 := NB180_203.out
              have hnc37 := NB203_180.out
              have hcz38_0 : wc.cell? ⟨gb180, 0, none⟩ = some (.string a1_0) := (blk_cell BK180.out 0).trans rfl
              have hcz38_1 : wc.cell? ⟨gb180, 1, none⟩ = some (.string a1_1) := (blk_cell BK180.out 1).trans rfl
              have hcz38_2 : wc.cell? ⟨gb180, 2, none⟩ = some (.string a1_2) := (blk_cell BK180.out 2).trans rfl
              have hcz38_3 : wc.cell? ⟨gb180, 3, none⟩ = some (.slice A1_3 l1_3.length c1_3) := (blk_cell BK180.out 3).trans rfl
              have hfz38_0 := blk_frozen BK180.out 0
              have hfz38_1 := blk_frozen BK180.out 1
              have hfz38_2 := blk_frozen BK180.out 2
              have hfz38_3 := blk_frozen BK180.out 3
              go_wp2_with (first | ((with_reducible refine gate_store (t := 35) rfl ?_); refine wpList_store_row rfl 35 _ _ rfl _ _ rfl rfl 35 _ (by first | exact blk_new _ _ | exact blk_alloc (blk_new _ _) _) (by kernel_rfl) rfl (by simp [Value.oneCell']) ?_; (first | rw [Own.alloc_setRow] | rw [Own.alloc2_setRow0] | rw [Own.alloc2_setRow1])) | ((with_reducible refine gate_callee (f := 17) rfl ?_); refine goesL_ (some 33) rfl rfl Tryd.func17 (by kernel_rfl) rfl #[.slice A1_3 l1_3.length c1_3] rfl (by (try simp only [List.map_toArray, List.map_cons, List.map_nil]); first | done | rfl | (simp only [List.length_drop, List.length_take]; rfl)) ?_; (with_reducible refine (may_control.calls kj16 _ _ l1_3 true t206 t207 t208 t209 t210 t211 t212 t213 t214 t215 t216 t217 t218 t219 t220 t221 t222 t223 t224 t225 _ ?side1 ?side2 A34.out).mono ?_); (case side1 => repeat (first | exact (Kd.C_below HR1_3.out HB.out) | (with_reducible refine Kd.C_alloc ?_ _) | (with_reducible refine Kd.C_drewN ?_ _) | (with_reducible refine Kd.C_drew ?_))); (case side2 => exact HC1_3.out); rintro e w39 ⟨rfl, hb⟩; refine ⟨_, rfl, ?_⟩; have n0_ := Aside0.mk (blk_below (g := gb180) (o := .cells #[.string a1_0, .string a1_1, .string a1_2, .slice A1_3 l1_3.length c1_3] 24 (0, 0)) (by (with_reducible repeat (first | refine blk_drewN ?_ _ | refine blk_drew ?_ | refine blk_alloc ?_ _)); exact BK180.out) hb); have n1_ := Aside0.mk (blk_below (g := gb181) (o := .cells #[.int .i64 a2_0, .slice A2_1 l2_1.length c2_1, .slice A2_2 l2_2.length c2_2] 27 (0, 0)) (by (with_reducible repeat (first | refine blk_drewN ?_ _ | refine blk_drew ?_ | refine blk_alloc ?_ _)); exact BK181.out) hb); have n2_ := Aside0.mk (blk_below (g := gb203) (o := .cells #[.bool t182, .bool t183, .bool t184, .bool t185, .bool t186, .bool t187, .bool t188, .bool t189, .bool t190, .bool t191, .bool t192, .bool t193, .int .i64 t194, .bool t195, .int .i64 t196, .bool t197, .int .i64 t198, .bool t199, .int .i64 t200, .bool t201, .int .i64 t202] 35 (0, 0)) (by (with_reducible repeat (first | refine blk_drewN ?_ _ | refine blk_drew ?_ | refine blk_alloc ?_ _)); exact BK203.out) hb); have n3_ := Aside0.mk (below_step (by repeat (first | (with_reducible first | exact HB.out | apply below_alloc | apply pw_below_drewN | apply below_drew1 | refine below_set ?_ GE180.out | refine below_set ?_ GE181.out | refine below_set ?_ GE203.out) | exact HB.out)) hb); clear BK180; clear BK181; clear BK203; clear HB; have BK180 := n0_; have BK181 := n1_; have BK203 := n2_; have HB := n3_; clear n0_ n1_ n2_ n3_; (try clear hb); (try clear hb2); (try clear hk); (try clear hi)))
              go_ret
              exact ⟨by first | rfl | (simp [errW_none, errW_some] <;> rfl) | (simp [*, errW_none, errW_some] <;> rfl), by repeat (first | (with_reducible first | exact HB.out | apply below_alloc | apply pw_below_drewN | apply below_drew1 | refine below_set ?_ GE180.out | refine below_set ?_ GE181.out | refine below_set ?_ GE203.out) | exact HB.out)⟩
            · replace c35 := Bool.eq_false_iff.mpr c35
              subst c35
              have H1 : (if t182 = true then (some 3) else (if t189 = true then ((age_Usual.f a2_0).bind fun t226 => (if t226 = true then (may_Store.j1 kj16 a0 a1_0 a1_1 a1_2 l1_3 a2_0 l2_1 l2_2 t182 t183 t184 t185 t186 t187 t188 t189 t190 t191 t192 t193 t194 t195 t196 t197 t198 t199 t200 t201 t202) else (some 3))) else (may_Store.j1 kj16 a0 a1_0 a1_1 a1_2 l1_3 a2_0 l2_1 l2_2 t182 t183 t184 t185 t186 t187 t188 t189 t190 t191 t192 t193 t194 t195 t196 t197 t198 t199 t200 t201 t202))) = some r := by rw [if_neg (show ¬ (false = true) by decide)] at H; exact H
              clear H
              have H := H1
              clear H1
              by_cases c40 : t182 = true
              · subst c40
                have H1 : (some 3) = some r := by rw [if_pos rfl] at H; exact H
                clear H
                have H := H1
                clear H1
                obtain rfl := Option.some.inj H
                have hnb41 := NB180_181.out
                have hnc41 := NB181_180.out
                have hnb42 := NB180_203.out
                have hnc42 := NB203_180.out
                have hcz43_0 : wc.cell? ⟨gb180, 0, none⟩ = some (.string a1_0) := (blk_cell BK180.out 0).trans rfl
                have hcz43_1 : wc.cell? ⟨gb180, 1, none⟩ = some (.string a1_1) := (blk_cell BK180.out 1).trans rfl
                have hcz43_2 : wc.cell? ⟨gb180, 2, none⟩ = some (.string a1_2) := (blk_cell BK180.out 2).trans rfl
                have hcz43_3 : wc.cell? ⟨gb180, 3, none⟩ = some (.slice A1_3 l1_3.length c1_3) := (blk_cell BK180.out 3).trans rfl
                have hfz43_0 := blk_frozen BK180.out 0
                have hfz43_1 := blk_frozen BK180.out 1
                have hfz43_2 := blk_frozen BK180.out 2
                have hfz43_3 := blk_frozen BK180.out 3
                go_wp2_with (first | ((with_reducible refine gate_store (t := 35) rfl ?_); refine wpList_store_row rfl 35 _ _ rfl _ _ rfl rfl 35 _ (by first | exact blk_new _ _ | exact blk_alloc (blk_new _ _) _) (by kernel_rfl) rfl (by simp [Value.oneCell']) ?_; (first | rw [Own.alloc_setRow] | rw [Own.alloc2_setRow0] | rw [Own.alloc2_setRow1])) | ((with_reducible refine gate_callee (f := 17) rfl ?_); refine goesL_ (some 33) rfl rfl Tryd.func17 (by kernel_rfl) rfl #[.slice A1_3 l1_3.length c1_3] rfl (by (try simp only [List.map_toArray, List.map_cons, List.map_nil]); first | done | rfl | (simp only [List.length_drop, List.length_take]; rfl)) ?_; (with_reducible refine (may_control.calls kj16 _ _ l1_3 false t206 t207 t208 t209 t210 t211 t212 t213 t214 t215 t216 t217 t218 t219 t220 t221 t222 t223 t224 t225 _ ?side1 ?side2 A34.out).mono ?_); (case side1 => repeat (first | exact (Kd.C_below HR1_3.out HB.out) | (with_reducible refine Kd.C_alloc ?_ _) | (with_reducible refine Kd.C_drewN ?_ _) | (with_reducible refine Kd.C_drew ?_))); (case side2 => exact HC1_3.out); rintro e w44 ⟨rfl, hb⟩; refine ⟨_, rfl, ?_⟩; have n0_ := Aside0.mk (blk_below (g := gb180) (o := .cells #[.string a1_0, .string a1_1, .string a1_2, .slice A1_3 l1_3.length c1_3] 24 (0, 0)) (by (with_reducible repeat (first | refine blk_drewN ?_ _ | refine blk_drew ?_ | refine blk_alloc ?_ _)); exact BK180.out) hb); have n1_ := Aside0.mk (blk_below (g := gb181) (o := .cells #[.int .i64 a2_0, .slice A2_1 l2_1.length c2_1, .slice A2_2 l2_2.length c2_2] 27 (0, 0)) (by (with_reducible repeat (first | refine blk_drewN ?_ _ | refine blk_drew ?_ | refine blk_alloc ?_ _)); exact BK181.out) hb); have n2_ := Aside0.mk (blk_below (g := gb203) (o := .cells #[.bool true, .bool t183, .bool t184, .bool t185, .bool t186, .bool t187, .bool t188, .bool t189, .bool t190, .bool t191, .bool t192, .bool t193, .int .i64 t194, .bool t195, .int .i64 t196, .bool t197, .int .i64 t198, .bool t199, .int .i64 t200, .bool t201, .int .i64 t202] 35 (0, 0)) (by (with_reducible repeat (first | refine blk_drewN ?_ _ | refine blk_drew ?_ | refine blk_alloc ?_ _)); exact BK203.out) hb); have n3_ := Aside0.mk (below_step (by repeat (first | (with_reducible first | exact HB.out | apply below_alloc | apply pw_below_drewN | apply below_drew1 | refine below_set ?_ GE180.out | refine below_set ?_ GE181.out | refine below_set ?_ GE203.out) | exact HB.out)) hb); clear BK180; clear BK181; clear BK203; clear HB; have BK180 := n0_; have BK181 := n1_; have BK203 := n2_; have HB := n3_; clear n0_ n1_ n2_ n3_; (try clear hb); (try clear hb2); (try clear hk); (try clear hi); have hnb45 := NB203_181.out; have hnc45 := NB181_203.out; have hcz46_0 : w44.cell? ⟨gb203, 0, none⟩ = some (.bool true) := (blk_cell BK203.out 0).trans rfl; have hcz46_1 : w44.cell? ⟨gb203, 1, none⟩ = some (.bool t183) := (blk_cell BK203.out 1).trans rfl; have hcz46_2 : w44.cell? ⟨gb203, 2, none⟩ = some (.bool t184) := (blk_cell BK203.out 2).trans rfl; have hcz46_3 : w44.cell? ⟨gb203, 3, none⟩ = some (.bool t185) := (blk_cell BK203.out 3).trans rfl; have hcz46_4 : w44.cell? ⟨gb203, 4, none⟩ = some (.bool t186) := (blk_cell BK203.out 4).trans rfl; have hcz46_5 : w44.cell? ⟨gb203, 5, none⟩ = some (.bool t187) := (blk_cell BK203.out 5).trans rfl; have hcz46_6 : w44.cell? ⟨gb203, 6, none⟩ = some (.bool t188) := (blk_cell BK203.out 6).trans rfl; have hcz46_7 : w44.cell? ⟨gb203, 7, none⟩ = some (.bool t189) := (blk_cell BK203.out 7).trans rfl; have hcz46_8 : w44.cell? ⟨gb203, 8, none⟩ = some (.bool t190) := (blk_cell BK203.out 8).trans rfl; have hcz46_9 : w44.cell? ⟨gb203, 9, none⟩ = some (.bool t191) := (blk_cell BK203.out 9).trans rfl; have hcz46_10 : w44.cell? ⟨gb203, 10, none⟩ = some (.bool t192) := (blk_cell BK203.out 10).trans rfl; have hcz46_11 : w44.cell? ⟨gb203, 11, none⟩ = some (.bool t193) := (blk_cell BK203.out 11).trans rfl; have hcz46_12 : w44.cell? ⟨gb203, 12, none⟩ = some (.int .i64 t194) := (blk_cell BK203.out 12).trans rfl; have hcz46_13 : w44.cell? ⟨gb203, 13, none⟩ = some (.bool t195) := (blk_cell BK203.out 13).trans rfl; have hcz46_14 : w44.cell? ⟨gb203, 14, none⟩ = some (.int .i64 t196) := (blk_cell BK203.out 14).trans rfl; have hcz46_15 : w44.cell? ⟨gb203, 15, none⟩ = some (.bool t197) := (blk_cell BK203.out 15).trans rfl; have hcz46_16 : w44.cell? ⟨gb203, 16, none⟩ = some (.int .i64 t198) := (blk_cell BK203.out 16).trans rfl; have hcz46_17 : w44.cell? ⟨gb203, 17, none⟩ = some (.bool t199) := (blk_cell BK203.out 17).trans rfl; have hcz46_18 : w44.cell? ⟨gb203, 18, none⟩ = some (.int .i64 t200) := (blk_cell BK203.out 18).trans rfl; have hcz46_19 : w44.cell? ⟨gb203, 19, none⟩ = some (.bool t201) := (blk_cell BK203.out 19).trans rfl; have hcz46_20 : w44.cell? ⟨gb203, 20, none⟩ = some (.int .i64 t202) := (blk_cell BK203.out 20).trans rfl; have hfz46_0 := blk_frozen BK203.out 0; have hfz46_1 := blk_frozen BK203.out 1; have hfz46_2 := blk_frozen BK203.out 2; have hfz46_3 := blk_frozen BK203.out 3; have hfz46_4 := blk_frozen BK203.out 4; have hfz46_5 := blk_frozen BK203.out 5; have hfz46_6 := blk_frozen BK203.out 6; have hfz46_7 := blk_frozen BK203.out 7; have hfz46_8 := blk_frozen BK203.out 8; have hfz46_9 := blk_frozen BK203.out 9; have hfz46_10 := blk_frozen BK203.out 10; have hfz46_11 := blk_frozen BK203.out 11; have hfz46_12 := blk_frozen BK203.out 12; have hfz46_13 := blk_frozen BK203.out 13; have hfz46_14 := blk_frozen BK203.out 14; have hfz46_15 := blk_frozen BK203.out 15; have hfz46_16 := blk_frozen BK203.out 16; have hfz46_17 := blk_frozen BK203.out 17; have hfz46_18 := blk_frozen BK203.out 18; have hfz46_19 := blk_frozen BK203.out 19; have hfz46_20 := blk_frozen BK203.out 20))
                go_ret
                exact ⟨by first | rfl | (simp [errW_none, errW_some] <;> rfl) | (simp [*, errW_none, errW_some] <;> rfl), by repeat (first | (with_reducible first | exact HB.out | apply below_alloc | apply pw_below_drewN | apply below_drew1 | refine below_set ?_ GE180.out | refine below_set ?_ GE181.out | refine below_set ?_ GE203.out) | exact HB.out)⟩
              · replace c40 := Bool.eq_false_iff.mpr c40
                subst c40
                have H1 : (if t189 = true then ((age_Usual.f a2_0).bind fun t226 => (if t226 = true then (may_Store.j1 kj16 a0 a1_0 a1_1 a1_2 l1_3 a2_0 l2_1 l2_2 false t183 t184 t185 t186 t187 t188 t189 t190 t191 t192 t193 t194 t195 t196 t197 t198 t199 t200 t201 t202) else (some 3))) else (may_Store.j1 kj16 a0 a1_0 a1_1 a1_2 l1_3 a2_0 l2_1 l2_2 false t183 t184 t185 t186 t187 t188 t189 t190 t191 t192 t193 t194 t195 t196 t197 t198 t199 t200 t201 t202)) = some r := by rw [if_neg (show ¬ (false = true) by decide)] at H; exact H
                clear H
                have H := H1
                clear H1
                by_cases c47 : t189 = true
                · subst c47
                  have H1 : ((age_Usual.f a2_0).bind fun t226 => (if t226 = true then (may_Store.j1 kj16 a0 a1_0 a1_1 a1_2 l1_3 a2_0 l2_1 l2_2 false t183 t184 t185 t186 t187 t188 true t190 t191 t192 t193 t194 t195 t196 t197 t198 t199 t200 t201 t202) else (some 3))) = some r := by rw [if_pos rfl] at H; exact H
                  clear H
                  have H := H1
                  clear H1
                  replace H := Option.bind_eq_some_iff.mp H
                  obtain ⟨t226, A480, H⟩ := H
                  replace H : (if t226 = true then (may_Store.j1 kj16 a0 a1_0 a1_1 a1_2 l1_3 a2_0 l2_1 l2_2 false t183 t184 t185 t186 t187 t188 true t190 t191 t192 t193 t194 t195 t196 t197 t198 t199 t200 t201 t202) else (some 3)) = some r := H
                  have A48 := Aside0.mk A480
                  clear A480
                  by_cases c49 : t226 = true
                  · subst c49
                    have H1 : (may_Store.j1 kj16 a0 a1_0 a1_1 a1_2 l1_3 a2_0 l2_1 l2_2 false t183 t184 t185 t186 t187 t188 true t190 t191 t192 t193 t194 t195 t196 t197 t198 t199 t200 t201 t202) = some r := by rw [if_pos rfl] at H; exact H
                    clear H
                    have H := H1
                    clear H1
                    have H' := Aside0.mk H
                    clear H
                    have hnb50 := NB180_181.out
                    have hnc50 := NB181_180.out
                    have hnb51 := NB180_203.out
                    have hnc51 := NB203_180.out
                    have hcz52_0 : wc.cell? ⟨gb180, 0, none⟩ = some (.string a1_0) := (blk_cell BK180.out 0).trans rfl
                    have hcz52_1 : wc.cell? ⟨gb180, 1, none⟩ = some (.string a1_1) := (blk_cell BK180.out 1).trans rfl
                    have hcz52_2 : wc.cell? ⟨gb180, 2, none⟩ = some (.string a1_2) := (blk_cell BK180.out 2).trans rfl
                    have hcz52_3 : wc.cell? ⟨gb180, 3, none⟩ = some (.slice A1_3 l1_3.length c1_3) := (blk_cell BK180.out 3).trans rfl
                    have hfz52_0 := blk_frozen BK180.out 0
                    have hfz52_1 := blk_frozen BK180.out 1
                    have hfz52_2 := blk_frozen BK180.out 2
                    have hfz52_3 := blk_frozen BK180.out 3
                    go_wp2_with (first | ((with_reducible refine gate_store (t := 35) rfl ?_); refine wpList_store_row rfl 35 _ _ rfl _ _ rfl rfl 35 _ (by first | exact blk_new _ _ | exact blk_alloc (blk_new _ _) _) (by kernel_rfl) rfl (by simp [Value.oneCell']) ?_; (first | rw [Own.alloc_setRow] | rw [Own.alloc2_setRow0] | rw [Own.alloc2_setRow1])) | ((with_reducible refine gate_callee (f := 17) rfl ?_); refine goesL_ (some 33) rfl rfl Tryd.func17 (by kernel_rfl) rfl #[.slice A1_3 l1_3.length c1_3] rfl (by (try simp only [List.map_toArray, List.map_cons, List.map_nil]); first | done | rfl | (simp only [List.length_drop, List.length_take]; rfl)) ?_; (with_reducible refine (may_control.calls kj16 _ _ l1_3 false t206 t207 t208 t209 t210 t211 t212 t213 t214 t215 t216 t217 t218 t219 t220 t221 t222 t223 t224 t225 _ ?side1 ?side2 A34.out).mono ?_); (case side1 => repeat (first | exact (Kd.C_below HR1_3.out HB.out) | (with_reducible refine Kd.C_alloc ?_ _) | (with_reducible refine Kd.C_drewN ?_ _) | (with_reducible refine Kd.C_drew ?_))); (case side2 => exact HC1_3.out); rintro e w53 ⟨rfl, hb⟩; refine ⟨_, rfl, ?_⟩; have n0_ := Aside0.mk (blk_below (g := gb180) (o := .cells #[.string a1_0, .string a1_1, .string a1_2, .slice A1_3 l1_3.length c1_3] 24 (0, 0)) (by (with_reducible repeat (first | refine blk_drewN ?_ _ | refine blk_drew ?_ | refine blk_alloc ?_ _)); exact BK180.out) hb); have n1_ := Aside0.mk (blk_below (g := gb181) (o := .cells #[.int .i64 a2_0, .slice A2_1 l2_1.length c2_1, .slice A2_2 l2_2.length c2_2] 27 (0, 0)) (by (with_reducible repeat (first | refine blk_drewN ?_ _ | refine blk_drew ?_ | refine blk_alloc ?_ _)); exact BK181.out) hb); have n2_ := Aside0.mk (blk_below (g := gb203) (o := .cells #[.bool false, .bool t183, .bool t184, .bool t185, .bool t186, .bool t187, .bool t188, .bool true, .bool t190, .bool t191, .bool t192, .bool t193, .int .i64 t194, .bool t195, .int .i64 t196, .bool t197, .int .i64 t198, .bool t199, .int .i64 t200, .bool t201, .int .i64 t202] 35 (0, 0)) (by (with_reducible repeat (first | refine blk_drewN ?_ _ | refine blk_drew ?_ | refine blk_alloc ?_ _)); exact BK203.out) hb); have n3_ := Aside0.mk (below_step (by repeat (first | (with_reducible first | exact HB.out | apply below_alloc | apply pw_below_drewN | apply below_drew1 | refine below_set ?_ GE180.out | refine below_set ?_ GE181.out | refine below_set ?_ GE203.out) | exact HB.out)) hb); clear BK180; clear BK181; clear BK203; clear HB; have BK180 := n0_; have BK181 := n1_; have BK203 := n2_; have HB := n3_; clear n0_ n1_ n2_ n3_; (try clear hb); (try clear hb2); (try clear hk); (try clear hi); have hnb54 := NB203_181.out; have hnc54 := NB181_203.out; have hcz55_0 : w53.cell? ⟨gb203, 0, none⟩ = some (.bool false) := (blk_cell BK203.out 0).trans rfl; have hcz55_1 : w53.cell? ⟨gb203, 1, none⟩ = some (.bool t183) := (blk_cell BK203.out 1).trans rfl; have hcz55_2 : w53.cell? ⟨gb203, 2, none⟩ = some (.bool t184) := (blk_cell BK203.out 2).trans rfl; have hcz55_3 : w53.cell? ⟨gb203, 3, none⟩ = some (.bool t185) := (blk_cell BK203.out 3).trans rfl; have hcz55_4 : w53.cell? ⟨gb203, 4, none⟩ = some (.bool t186) := (blk_cell BK203.out 4).trans rfl; have hcz55_5 : w53.cell? ⟨gb203, 5, none⟩ = some (.bool t187) := (blk_cell BK203.out 5).trans rfl; have hcz55_6 : w53.cell? ⟨gb203, 6, none⟩ = some (.bool t188) := (blk_cell BK203.out 6).trans rfl; have hcz55_7 : w53.cell? ⟨gb203, 7, none⟩ = some (.bool true) := (blk_cell BK203.out 7).trans rfl; have hcz55_8 : w53.cell? ⟨gb203, 8, none⟩ = some (.bool t190) := (blk_cell BK203.out 8).trans rfl; have hcz55_9 : w53.cell? ⟨gb203, 9, none⟩ = some (.bool t191) := (blk_cell BK203.out 9).trans rfl; have hcz55_10 : w53.cell? ⟨gb203, 10, none⟩ = some (.bool t192) := (blk_cell BK203.out 10).trans rfl; have hcz55_11 : w53.cell? ⟨gb203, 11, none⟩ = some (.bool t193) := (blk_cell BK203.out 11).trans rfl; have hcz55_12 : w53.cell? ⟨gb203, 12, none⟩ = some (.int .i64 t194) := (blk_cell BK203.out 12).trans rfl; have hcz55_13 : w53.cell? ⟨gb203, 13, none⟩ = some (.bool t195) := (blk_cell BK203.out 13).trans rfl; have hcz55_14 : w53.cell? ⟨gb203, 14, none⟩ = some (.int .i64 t196) := (blk_cell BK203.out 14).trans rfl; have hcz55_15 : w53.cell? ⟨gb203, 15, none⟩ = some (.bool t197) := (blk_cell BK203.out 15).trans rfl; have hcz55_16 : w53.cell? ⟨gb203, 16, none⟩ = some (.int .i64 t198) := (blk_cell BK203.out 16).trans rfl; have hcz55_17 : w53.cell? ⟨gb203, 17, none⟩ = some (.bool t199) := (blk_cell BK203.out 17).trans rfl; have hcz55_18 : w53.cell? ⟨gb203, 18, none⟩ = some (.int .i64 t200) := (blk_cell BK203.out 18).trans rfl; have hcz55_19 : w53.cell? ⟨gb203, 19, none⟩ = some (.bool t201) := (blk_cell BK203.out 19).trans rfl; have hcz55_20 : w53.cell? ⟨gb203, 20, none⟩ = some (.int .i64 t202) := (blk_cell BK203.out 20).trans rfl; have hfz55_0 := blk_frozen BK203.out 0; have hfz55_1 := blk_frozen BK203.out 1; have hfz55_2 := blk_frozen BK203.out 2; have hfz55_3 := blk_frozen BK203.out 3; have hfz55_4 := blk_frozen BK203.out 4; have hfz55_5 := blk_frozen BK203.out 5; have hfz55_6 := blk_frozen BK203.out 6; have hfz55_7 := blk_frozen BK203.out 7; have hfz55_8 := blk_frozen BK203.out 8; have hfz55_9 := blk_frozen BK203.out 9; have hfz55_10 := blk_frozen BK203.out 10; have hfz55_11 := blk_frozen BK203.out 11; have hfz55_12 := blk_frozen BK203.out 12; have hfz55_13 := blk_frozen BK203.out 13; have hfz55_14 := blk_frozen BK203.out 14; have hfz55_15 := blk_frozen BK203.out 15; have hfz55_16 := blk_frozen BK203.out 16; have hfz55_17 := blk_frozen BK203.out 17; have hfz55_18 := blk_frozen BK203.out 18; have hfz55_19 := blk_frozen BK203.out 19; have hfz55_20 := blk_frozen BK203.out 20; have hcz56_0 : w53.cell? ⟨gb181, 0, none⟩ = some (.int .i64 a2_0) := (blk_cell BK181.out 0).trans rfl; have hcz56_1 : w53.cell? ⟨gb181, 1, none⟩ = some (.slice A2_1 l2_1.length c2_1) := (blk_cell BK181.out 1).trans rfl; have hcz56_2 : w53.cell? ⟨gb181, 2, none⟩ = some (.slice A2_2 l2_2.length c2_2) := (blk_cell BK181.out 2).trans rfl; have hfz56_0 := blk_frozen BK181.out 0; have hfz56_1 := blk_frozen BK181.out 1; have hfz56_2 := blk_frozen BK181.out 2) | (go_at_call 12; (with_reducible refine (age_Usual.calls a2_0 true _ A48.out).mono ?_); rintro e w' ⟨rfl, ⟨nd, rfl⟩⟩))
                    go_meet
                    case rel => exact ⟨_, H', ⟨by have := HJ16.out; first | omega | exact Nat.le_refl _⟩, ⟨by (with_reducible repeat (first | refine blk_drewN ?_ _ | refine blk_drew ?_ | refine blk_alloc ?_ _)); exact BK180.out⟩, ⟨by (with_reducible repeat (first | refine blk_drewN ?_ _ | refine blk_drew ?_ | refine blk_alloc ?_ _)); exact BK181.out⟩, ⟨by (with_reducible repeat (first | refine blk_drewN ?_ _ | refine blk_drew ?_ | refine blk_alloc ?_ _)); exact BK203.out⟩, ⟨by repeat (first | (with_reducible first | exact HB.out | apply below_alloc | apply pw_below_drewN | apply below_drew1 | refine below_set ?_ GE180.out | refine below_set ?_ GE181.out | refine below_set ?_ GE203.out) | exact HB.out)⟩⟩
                  · replace c49 := Bool.eq_false_iff.mpr c49
                    subst c49
                    have H1 : (some 3) = some r := by rw [if_neg (show ¬ (false = true) by decide)] at H; exact H
                    clear H
                    have H := H1
                    clear H1
                    obtain rfl := Option.some.inj H
                    have hnb57 := NB180_181.out
                    have hnc57 := NB181_180.out
                    have hnb58 := NB180_203.out
                    have hnc58 := NB203_180.out
                    have hcz59_0 : wc.cell? ⟨gb180, 0, none⟩ = some (.string a1_0) := (blk_cell BK180.out 0).trans rfl
                    have hcz59_1 : wc.cell? ⟨gb180, 1, none⟩ = some (.string a1_1) := (blk_cell BK180.out 1).trans rfl
                    have hcz59_2 : wc.cell? ⟨gb180, 2, none⟩ = some (.string a1_2) := (blk_cell BK180.out 2).trans rfl
                    have hcz59_3 : wc.cell? ⟨gb180, 3, none⟩ = some (.slice A1_3 l1_3.length c1_3) := (blk_cell BK180.out 3).trans rfl
                    have hfz59_0 := blk_frozen BK180.out 0
                    have hfz59_1 := blk_frozen BK180.out 1
                    have hfz59_2 := blk_frozen BK180.out 2
                    have hfz59_3 := blk_frozen BK180.out 3
                    go_wp2_with (first | ((with_reducible refine gate_store (t := 35) rfl ?_); refine wpList_store_row rfl 35 _ _ rfl _ _ rfl rfl 35 _ (by first | exact blk_new _ _ | exact blk_alloc (blk_new _ _) _) (by kernel_rfl) rfl (by simp [Value.oneCell']) ?_; (first | rw [Own.alloc_setRow] | rw [Own.alloc2_setRow0] | rw [Own.alloc2_setRow1])) | ((with_reducible refine gate_callee (f := 17) rfl ?_); refine goesL_ (some 33) rfl rfl Tryd.func17 (by kernel_rfl) rfl #[.slice A1_3 l1_3.length c1_3] rfl (by (try simp only [List.map_toArray, List.map_cons, List.map_nil]); first | done | rfl | (simp only [List.length_drop, List.length_take]; rfl)) ?_; (with_reducible refine (may_control.calls kj16 _ _ l1_3 false t206 t207 t208 t209 t210 t211 t212 t213 t214 t215 t216 t217 t218 t219 t220 t221 t222 t223 t224 t225 _ ?side1 ?side2 A34.out).mono ?_); (case side1 => repeat (first | exact (Kd.C_below HR1_3.out HB.out) | (with_reducible refine Kd.C_alloc ?_ _) | (with_reducible refine Kd.C_drewN ?_ _) | (with_reducible refine Kd.C_drew ?_))); (case side2 => exact HC1_3.out); rintro e w60 ⟨rfl, hb⟩; refine ⟨_, rfl, ?_⟩; have n0_ := Aside0.mk (blk_below (g := gb180) (o := .cells #[.string a1_0, .string a1_1, .string a1_2, .slice A1_3 l1_3.length c1_3] 24 (0, 0)) (by (with_reducible repeat (first | refine blk_drewN ?_ _ | refine blk_drew ?_ | refine blk_alloc ?_ _)); exact BK180.out) hb); have n1_ := Aside0.mk (blk_below (g := gb181) (o := .cells #[.int .i64 a2_0, .slice A2_1 l2_1.length c2_1, .slice A2_2 l2_2.length c2_2] 27 (0, 0)) (by (with_reducible repeat (first | refine blk_drewN ?_ _ | refine blk_drew ?_ | refine blk_alloc ?_ _)); exact BK181.out) hb); have n2_ := Aside0.mk (blk_below (g := gb203) (o := .cells #[.bool false, .bool t183, .bool t184, .bool t185, .bool t186, .bool t187, .bool t188, .bool true, .bool t190, .bool t191, .bool t192, .bool t193, .int .i64 t194, .bool t195, .int .i64 t196, .bool t197, .int .i64 t198, .bool t199, .int .i64 t200, .bool t201, .int .i64 t202] 35 (0, 0)) (by (with_reducible repeat (first | refine blk_drewN ?_ _ | refine blk_drew ?_ | refine blk_alloc ?_ _)); exact BK203.out) hb); have n3_ := Aside0.mk (below_step (by repeat (first | (with_reducible first | exact HB.out | apply below_alloc | apply pw_below_drewN | apply below_drew1 | refine below_set ?_ GE180.out | refine below_set ?_ GE181.out | refine below_set ?_ GE203.out) | exact HB.out)) hb); clear BK180; clear BK181; clear BK203; clear HB; have BK180 := n0_; have BK181 := n1_; have BK203 := n2_; have HB := n3_; clear n0_ n1_ n2_ n3_; (try clear hb); (try clear hb2); (try clear hk); (try clear hi); have hnb61 := NB203_181.out; have hnc61 := NB181_203.out; have hcz62_0 : w60.cell? ⟨gb203, 0, none⟩ = some (.bool false) := (blk_cell BK203.out 0).trans rfl; have hcz62_1 : w60.cell? ⟨gb203, 1, none⟩ = some (.bool t183) := (blk_cell BK203.out 1).trans rfl; have hcz62_2 : w60.cell? ⟨gb203, 2, none⟩ = some (.bool t184) := (blk_cell BK203.out 2).trans rfl; have hcz62_3 : w60.cell? ⟨gb203, 3, none⟩ = some (.bool t185) := (blk_cell BK203.out 3).trans rfl; have hcz62_4 : w60.cell? ⟨gb203, 4, none⟩ = some (.bool t186) := (blk_cell BK203.out 4).trans rfl; have hcz62_5 : w60.cell? ⟨gb203, 5, none⟩ = some (.bool t187) := (blk_cell BK203.out 5).trans rfl; have hcz62_6 : w60.cell? ⟨gb203, 6, none⟩ = some (.bool t188) := (blk_cell BK203.out 6).trans rfl; have hcz62_7 : w60.cell? ⟨gb203, 7, none⟩ = some (.bool true) := (blk_cell BK203.out 7).trans rfl; have hcz62_8 : w60.cell? ⟨gb203, 8, none⟩ = some (.bool t190) := (blk_cell BK203.out 8).trans rfl; have hcz62_9 : w60.cell? ⟨gb203, 9, none⟩ = some (.bool t191) := (blk_cell BK203.out 9).trans rfl; have hcz62_10 : w60.cell? ⟨gb203, 10, none⟩ = some (.bool t192) := (blk_cell BK203.out 10).trans rfl; have hcz62_11 : w60.cell? ⟨gb203, 11, none⟩ = some (.bool t193) := (blk_cell BK203.out 11).trans rfl; have hcz62_12 : w60.cell? ⟨gb203, 12, none⟩ = some (.int .i64 t194) := (blk_cell BK203.out 12).trans rfl; have hcz62_13 : w60.cell? ⟨gb203, 13, none⟩ = some (.bool t195) := (blk_cell BK203.out 13).trans rfl; have hcz62_14 : w60.cell? ⟨gb203, 14, none⟩ = some (.int .i64 t196) := (blk_cell BK203.out 14).trans rfl; have hcz62_15 : w60.cell? ⟨gb203, 15, none⟩ = some (.bool t197) := (blk_cell BK203.out 15).trans rfl; have hcz62_16 : w60.cell? ⟨gb203, 16, none⟩ = some (.int .i64 t198) := (blk_cell BK203.out 16).trans rfl; have hcz62_17 : w60.cell? ⟨gb203, 17, none⟩ = some (.bool t199) := (blk_cell BK203.out 17).trans rfl; have hcz62_18 : w60.cell? ⟨gb203, 18, none⟩ = some (.int .i64 t200) := (blk_cell BK203.out 18).trans rfl; have hcz62_19 : w60.cell? ⟨gb203, 19, none⟩ = some (.bool t201) := (blk_cell BK203.out 19).trans rfl; have hcz62_20 : w60.cell? ⟨gb203, 20, none⟩ = some (.int .i64 t202) := (blk_cell BK203.out 20).trans rfl; have hfz62_0 := blk_frozen BK203.out 0; have hfz62_1 := blk_frozen BK203.out 1; have hfz62_2 := blk_frozen BK203.out 2; have hfz62_3 := blk_frozen BK203.out 3; have hfz62_4 := blk_frozen BK203.out 4; have hfz62_5 := blk_frozen BK203.out 5; have hfz62_6 := blk_frozen BK203.out 6; have hfz62_7 := blk_frozen BK203.out 7; have hfz62_8 := blk_frozen BK203.out 8; have hfz62_9 := blk_frozen BK203.out 9; have hfz62_10 := blk_frozen BK203.out 10; have hfz62_11 := blk_frozen BK203.out 11; have hfz62_12 := blk_frozen BK203.out 12; have hfz62_13 := blk_frozen BK203.out 13; have hfz62_14 := blk_frozen BK203.out 14; have hfz62_15 := blk_frozen BK203.out 15; have hfz62_16 := blk_frozen BK203.out 16; have hfz62_17 := blk_frozen BK203.out 17; have hfz62_18 := blk_frozen BK203.out 18; have hfz62_19 := blk_frozen BK203.out 19; have hfz62_20 := blk_frozen BK203.out 20; have hcz63_0 : w60.cell? ⟨gb181, 0, none⟩ = some (.int .i64 a2_0) := (blk_cell BK181.out 0).trans rfl; have hcz63_1 : w60.cell? ⟨gb181, 1, none⟩ = some (.slice A2_1 l2_1.length c2_1) := (blk_cell BK181.out 1).trans rfl; have hcz63_2 : w60.cell? ⟨gb181, 2, none⟩ = some (.slice A2_2 l2_2.length c2_2) := (blk_cell BK181.out 2).trans rfl; have hfz63_0 := blk_frozen BK181.out 0; have hfz63_1 := blk_frozen BK181.out 1; have hfz63_2 := blk_frozen BK181.out 2) | (go_at_call 12; (with_reducible refine (age_Usual.calls a2_0 false _ A48.out).mono ?_); rintro e w' ⟨rfl, ⟨nd, rfl⟩⟩))
                    go_ret
                    exact ⟨by first | rfl | (simp [errW_none, errW_some] <;> rfl) | (simp [*, errW_none, errW_some] <;> rfl), by repeat (first | (with_reducible first | exact HB.out | apply below_alloc | apply pw_below_drewN | apply below_drew1 | refine below_set ?_ GE180.out | refine below_set ?_ GE181.out | refine below_set ?_ GE203.out) | exact HB.out)⟩
                · replace c47 := Bool.eq_false_iff.mpr c47
                  subst c47
                  have H1 : (may_Store.j1 kj16 a0 a1_0 a1_1 a1_2 l1_3 a2_0 l2_1 l2_2 false t183 t184 t185 t186 t187 t188 false t190 t191 t192 t193 t194 t195 t196 t197 t198 t199 t200 t201 t202) = some r := by rw [if_neg (show ¬ (false = true) by decide)] at H; exact H
                  clear H
                  have H := H1
                  clear H1
                  have H' := Aside0.mk H
                  clear H
                  have hnb64 := NB180_181.out
                  have hnc64 := NB181_180.out
                  have hnb65 := NB180_203.out
                  have hnc65 := NB203_180.out
                  have hcz66_0 : wc.cell? ⟨gb180, 0, none⟩ = some (.string a1_0) := (blk_cell BK180.out 0).trans rfl
                  have hcz66_1 : wc.cell? ⟨gb180, 1, none⟩ = some (.string a1_1) := (blk_cell BK180.out 1).trans rfl
                  have hcz66_2 : wc.cell? ⟨gb180, 2, none⟩ = some (.string a1_2) := (blk_cell BK180.out 2).trans rfl
                  have hcz66_3 : wc.cell? ⟨gb180, 3, none⟩ = some (.slice A1_3 l1_3.length c1_3) := (blk_cell BK180.out 3).trans rfl
                  have hfz66_0 := blk_frozen BK180.out 0
                  have hfz66_1 := blk_frozen BK180.out 1
                  have hfz66_2 := blk_frozen BK180.out 2
                  have hfz66_3 := blk_frozen BK180.out 3
                  go_wp2_with (first | ((with_reducible refine gate_store (t := 35) rfl ?_); refine wpList_store_row rfl 35 _ _ rfl _ _ rfl rfl 35 _ (by first | exact blk_new _ _ | exact blk_alloc (blk_new _ _) _) (by kernel_rfl) rfl (by simp [Value.oneCell']) ?_; (first | rw [Own.alloc_setRow] | rw [Own.alloc2_setRow0] | rw [Own.alloc2_setRow1])) | ((with_reducible refine gate_callee (f := 17) rfl ?_); refine goesL_ (some 33) rfl rfl Tryd.func17 (by kernel_rfl) rfl #[.slice A1_3 l1_3.length c1_3] rfl (by (try simp only [List.map_toArray, List.map_cons, List.map_nil]); first | done | rfl | (simp only [List.length_drop, List.length_take]; rfl)) ?_; (with_reducible refine (may_control.calls kj16 _ _ l1_3 false t206 t207 t208 t209 t210 t211 t212 t213 t214 t215 t216 t217 t218 t219 t220 t221 t222 t223 t224 t225 _ ?side1 ?side2 A34.out).mono ?_); (case side1 => repeat (first | exact (Kd.C_below HR1_3.out HB.out) | (with_reducible refine Kd.C_alloc ?_ _) | (with_reducible refine Kd.C_drewN ?_ _) | (with_reducible refine Kd.C_drew ?_))); (case side2 => exact HC1_3.out); rintro e w67 ⟨rfl, hb⟩; refine ⟨_, rfl, ?_⟩; have n0_ := Aside0.mk (blk_below (g := gb180) (o := .cells #[.string a1_0, .string a1_1, .string a1_2, .slice A1_3 l1_3.length c1_3] 24 (0, 0)) (by (with_reducible repeat (first | refine blk_drewN ?_ _ | refine blk_drew ?_ | refine blk_alloc ?_ _)); exact BK180.out) hb); have n1_ := Aside0.mk (blk_below (g := gb181) (o := .cells #[.int .i64 a2_0, .slice A2_1 l2_1.length c2_1, .slice A2_2 l2_2.length c2_2] 27 (0, 0)) (by (with_reducible repeat (first | refine blk_drewN ?_ _ | refine blk_drew ?_ | refine blk_alloc ?_ _)); exact BK181.out) hb); have n2_ := Aside0.mk (blk_below (g := gb203) (o := .cells #[.bool false, .bool t183, .bool t184, .bool t185, .bool t186, .bool t187, .bool t188, .bool false, .bool t190, .bool t191, .bool t192, .bool t193, .int .i64 t194, .bool t195, .int .i64 t196, .bool t197, .int .i64 t198, .bool t199, .int .i64 t200, .bool t201, .int .i64 t202] 35 (0, 0)) (by (with_reducible repeat (first | refine blk_drewN ?_ _ | refine blk_drew ?_ | refine blk_alloc ?_ _)); exact BK203.out) hb); have n3_ := Aside0.mk (below_step (by repeat (first | (with_reducible first | exact HB.out | apply below_alloc | apply pw_below_drewN | apply below_drew1 | refine below_set ?_ GE180.out | refine below_set ?_ GE181.out | refine below_set ?_ GE203.out) | exact HB.out)) hb); clear BK180; clear BK181; clear BK203; clear HB; have BK180 := n0_; have BK181 := n1_; have BK203 := n2_; have HB := n3_; clear n0_ n1_ n2_ n3_; (try clear hb); (try clear hb2); (try clear hk); (try clear hi); have hnb68 := NB203_181.out; have hnc68 := NB181_203.out; have hcz69_0 : w67.cell? ⟨gb203, 0, none⟩ = some (.bool false) := (blk_cell BK203.out 0).trans rfl; have hcz69_1 : w67.cell? ⟨gb203, 1, none⟩ = some (.bool t183) := (blk_cell BK203.out 1).trans rfl; have hcz69_2 : w67.cell? ⟨gb203, 2, none⟩ = some (.bool t184) := (blk_cell BK203.out 2).trans rfl; have hcz69_3 : w67.cell? ⟨gb203, 3, none⟩ = some (.bool t185) := (blk_cell BK203.out 3).trans rfl; have hcz69_4 : w67.cell? ⟨gb203, 4, none⟩ = some (.bool t186) := (blk_cell BK203.out 4).trans rfl; have hcz69_5 : w67.cell? ⟨gb203, 5, none⟩ = some (.bool t187) := (blk_cell BK203.out 5).trans rfl; have hcz69_6 : w67.cell? ⟨gb203, 6, none⟩ = some (.bool t188) := (blk_cell BK203.out 6).trans rfl; have hcz69_7 : w67.cell? ⟨gb203, 7, none⟩ = some (.bool false) := (blk_cell BK203.out 7).trans rfl; have hcz69_8 : w67.cell? ⟨gb203, 8, none⟩ = some (.bool t190) := (blk_cell BK203.out 8).trans rfl; have hcz69_9 : w67.cell? ⟨gb203, 9, none⟩ = some (.bool t191) := (blk_cell BK203.out 9).trans rfl; have hcz69_10 : w67.cell? ⟨gb203, 10, none⟩ = some (.bool t192) := (blk_cell BK203.out 10).trans rfl; have hcz69_11 : w67.cell? ⟨gb203, 11, none⟩ = some (.bool t193) := (blk_cell BK203.out 11).trans rfl; have hcz69_12 : w67.cell? ⟨gb203, 12, none⟩ = some (.int .i64 t194) := (blk_cell BK203.out 12).trans rfl; have hcz69_13 : w67.cell? ⟨gb203, 13, none⟩ = some (.bool t195) := (blk_cell BK203.out 13).trans rfl; have hcz69_14 : w67.cell? ⟨gb203, 14, none⟩ = some (.int .i64 t196) := (blk_cell BK203.out 14).trans rfl; have hcz69_15 : w67.cell? ⟨gb203, 15, none⟩ = some (.bool t197) := (blk_cell BK203.out 15).trans rfl; have hcz69_16 : w67.cell? ⟨gb203, 16, none⟩ = some (.int .i64 t198) := (blk_cell BK203.out 16).trans rfl; have hcz69_17 : w67.cell? ⟨gb203, 17, none⟩ = some (.bool t199) := (blk_cell BK203.out 17).trans rfl; have hcz69_18 : w67.cell? ⟨gb203, 18, none⟩ = some (.int .i64 t200) := (blk_cell BK203.out 18).trans rfl; have hcz69_19 : w67.cell? ⟨gb203, 19, none⟩ = some (.bool t201) := (blk_cell BK203.out 19).trans rfl; have hcz69_20 : w67.cell? ⟨gb203, 20, none⟩ = some (.int .i64 t202) := (blk_cell BK203.out 20).trans rfl; have hfz69_0 := blk_frozen BK203.out 0; have hfz69_1 := blk_frozen BK203.out 1; have hfz69_2 := blk_frozen BK203.out 2; have hfz69_3 := blk_frozen BK203.out 3; have hfz69_4 := blk_frozen BK203.out 4; have hfz69_5 := blk_frozen BK203.out 5; have hfz69_6 := blk_frozen BK203.out 6; have hfz69_7 := blk_frozen BK203.out 7; have hfz69_8 := blk_frozen BK203.out 8; have hfz69_9 := blk_frozen BK203.out 9; have hfz69_10 := blk_frozen BK203.out 10; have hfz69_11 := blk_frozen BK203.out 11; have hfz69_12 := blk_frozen BK203.out 12; have hfz69_13 := blk_frozen BK203.out 13; have hfz69_14 := blk_frozen BK203.out 14; have hfz69_15 := blk_frozen BK203.out 15; have hfz69_16 := blk_frozen BK203.out 16; have hfz69_17 := blk_frozen BK203.out 17; have hfz69_18 := blk_frozen BK203.out 18; have hfz69_19 := blk_frozen BK203.out 19; have hfz69_20 := blk_frozen BK203.out 20))
                  go_meet
                  case rel => exact ⟨_, H', ⟨by have := HJ16.out; first | omega | exact Nat.le_refl _⟩, ⟨by (with_reducible repeat (first | refine blk_drewN ?_ _ | refine blk_drew ?_ | refine blk_alloc ?_ _)); exact BK180.out⟩, ⟨by (with_reducible repeat (first | refine blk_drewN ?_ _ | refine blk_drew ?_ | refine blk_alloc ?_ _)); exact BK181.out⟩, ⟨by (with_reducible repeat (first | refine blk_drewN ?_ _ | refine blk_drew ?_ | refine blk_alloc ?_ _)); exact BK203.out⟩, ⟨by repeat (first | (with_reducible first | exact HB.out | apply below_alloc | apply pw_below_drewN | apply below_drew1 | refine below_set ?_ GE180.out | refine below_set ?_ GE181.out | refine below_set ?_ GE203.out) | exact HB.out)⟩⟩
    · replace c16 := Bool.eq_false_iff.mpr c16
      subst c16
      have H1 : (some 1) = some r := by rw [if_neg (show ¬ (false = true) by decide)] at H; exact H
      clear H
      have H := H1
      clear H1
      obtain rfl := Option.some.inj H
      have hnb70 := NB180_181.out
      have hnc70 := NB181_180.out
      have hnb71 := NB180_203.out
      have hnc71 := NB203_180.out
      have hcz72_0 : wrow.cell? ⟨gb180, 0, none⟩ = some (.string a1_0) := (blk_cell BK180.out 0).trans rfl
      have hcz72_1 : wrow.cell? ⟨gb180, 1, none⟩ = some (.string a1_1) := (blk_cell BK180.out 1).trans rfl
      have hcz72_2 : wrow.cell? ⟨gb180, 2, none⟩ = some (.string a1_2) := (blk_cell BK180.out 2).trans rfl
      have hcz72_3 : wrow.cell? ⟨gb180, 3, none⟩ = some (.slice A1_3 l1_3.length c1_3) := (blk_cell BK180.out 3).trans rfl
      have hfz72_0 := blk_frozen BK180.out 0
      have hfz72_1 := blk_frozen BK180.out 1
      have hfz72_2 := blk_frozen BK180.out 2
      have hfz72_3 := blk_frozen BK180.out 3
      go_wp2_with (first | ((with_reducible refine gate_store (t := 35) rfl ?_); refine wpList_store_row rfl 35 _ _ rfl _ _ rfl rfl 35 _ (by first | exact blk_new _ _ | exact blk_alloc (blk_new _ _) _) (by kernel_rfl) rfl (by simp [Value.oneCell']) ?_; (first | rw [Own.alloc_setRow] | rw [Own.alloc2_setRow0] | rw [Own.alloc2_setRow1])) | ((with_reducible refine gate_callee (f := 13) rfl ?_); refine goesL_ (some 14) rfl rfl Tryd.func13 (by kernel_rfl) rfl #[.agg #[.string a1_0, .string a1_1, .string a1_2, .slice A1_3 l1_3.length c1_3]] rfl (by (try simp only [List.map_toArray, List.map_cons, List.map_nil]); first | done | rfl | (simp only [List.length_drop, List.length_take]; rfl)) ?_; (with_reducible refine (may_Plain.calls k a1_0 a1_1 a1_2 _ _ l1_3 false _ ?side1 ?side2 A15.out).mono ?_); (case side1 => exact Kd.C_below HR1_3.out (by repeat (first | (with_reducible first | exact HB.out | apply below_alloc | apply pw_below_drewN | apply below_drew1 | refine below_set ?_ GE180.out | refine below_set ?_ GE181.out | refine below_set ?_ GE203.out) | exact HB.out))); (case side2 => exact HC1_3.out); rintro e w73 ⟨rfl, hb⟩; refine ⟨_, rfl, ?_⟩; have n0_ := Aside0.mk (blk_below (g := gb180) (o := .cells #[.string a1_0, .string a1_1, .string a1_2, .slice A1_3 l1_3.length c1_3] 24 (0, 0)) (by (with_reducible repeat (first | refine blk_drewN ?_ _ | refine blk_drew ?_ | refine blk_alloc ?_ _)); exact BK180.out) hb); have n1_ := Aside0.mk (blk_below (g := gb181) (o := .cells #[.int .i64 a2_0, .slice A2_1 l2_1.length c2_1, .slice A2_2 l2_2.length c2_2] 27 (0, 0)) (by (with_reducible repeat (first | refine blk_drewN ?_ _ | refine blk_drew ?_ | refine blk_alloc ?_ _)); exact BK181.out) hb); have n2_ := Aside0.mk (blk_below (g := gb203) (o := .cells #[.bool t182, .bool t183, .bool t184, .bool t185, .bool t186, .bool t187, .bool t188, .bool t189, .bool t190, .bool t191, .bool t192, .bool t193, .int .i64 t194, .bool t195, .int .i64 t196, .bool t197, .int .i64 t198, .bool t199, .int .i64 t200, .bool t201, .int .i64 t202] 35 (0, 0)) (by (with_reducible repeat (first | refine blk_drewN ?_ _ | refine blk_drew ?_ | refine blk_alloc ?_ _)); exact BK203.out) hb); have n3_ := Aside0.mk (below_step (by repeat (first | (with_reducible first | exact HB.out | apply below_alloc | apply pw_below_drewN | apply below_drew1 | refine below_set ?_ GE180.out | refine below_set ?_ GE181.out | refine below_set ?_ GE203.out) | exact HB.out)) hb); clear BK180; clear BK181; clear BK203; clear HB; have BK180 := n0_; have BK181 := n1_; have BK203 := n2_; have HB := n3_; clear n0_ n1_ n2_ n3_; (try clear hb); (try clear hb2); (try clear hk); (try clear hi)))
      go_ret
      exact ⟨by first | rfl | (simp [errW_none, errW_some] <;> rfl) | (simp [*, errW_none, errW_some] <;> rfl), by repeat (first | (with_reducible first | exact HB.out | apply below_alloc | apply pw_below_drewN | apply below_drew1 | refine below_set ?_ GE180.out | refine below_set ?_ GE181.out | refine below_set ?_ GE203.out) | exact HB.out)⟩
  case rest =>
    clear HC5
    try clear c1
    try clear c2
    try clear p2
    try clear c3
    try clear c4
    try clear c5
    try clear c6
    try clear c7
    try clear c8
    try clear c9
    try clear c12
    try clear c13
    try clear c16
    try clear c17
    try clear c18
    try clear c19
    try clear c22
    try clear c22b0
    try clear c23
    try clear c24
    try clear c26
    try clear c26b0
    try clear c26b1
    try clear c27
    try clear c28
    try clear c30
    try clear c31
    try clear c33
    try clear c35
    try clear c36
    try clear c37
    try clear c40
    try clear c41
    try clear c42
    try clear c45
    try clear c47
    try clear c49
    try clear c50
    try clear c51
    try clear c54
    try clear c57
    try clear c58
    try clear c61
    try clear c64
    try clear c65
    try clear c68
    try clear c70
    try clear c71
    try clear hcz14_0
    try clear hcz14_1
    try clear hcz14_10
    try clear hcz14_11
    try clear hcz14_12
    try clear hcz14_13
    try clear hcz14_14
    try clear hcz14_15
    try clear hcz14_16
    try clear hcz14_17
    try clear hcz14_18
    try clear hcz14_19
    try clear hcz14_2
    try clear hcz14_20
    try clear hcz14_3
    try clear hcz14_4
    try clear hcz14_5
    try clear hcz14_6
    try clear hcz14_7
    try clear hcz14_8
    try clear hcz14_9
    try clear hcz20_0
    try clear hcz20_1
    try clear hcz20_2
    try clear hcz20_3
    try clear hcz25_0
    try clear hcz25_1
    try clear hcz25_2
    try clear hcz29_0
    try clear hcz29_1
    try clear hcz29_2
    try clear hcz32_0
    try clear hcz32_1
    try clear hcz32_2
    try clear hcz38_0
    try clear hcz38_1
    try clear hcz38_2
    try clear hcz38_3
    try clear hcz43_0
    try clear hcz43_1
    try clear hcz43_2
    try clear hcz43_3
    try clear hcz46_0
    try clear hcz46_1
    try clear hcz46_10
    try clear hcz46_11
    try clear hcz46_12
    try clear hcz46_13
    try clear hcz46_14
    try clear hcz46_15
    try clear hcz46_16
    try clear hcz46_17
    try clear hcz46_18
    try clear hcz46_19
    try clear hcz46_2
    try clear hcz46_20
    try clear hcz46_3
    try clear hcz46_4
    try clear hcz46_5
    try clear hcz46_6
    try clear hcz46_7
    try clear hcz46_8
    try clear hcz46_9
    try clear hcz52_0
    try clear hcz52_1
    try clear hcz52_2
    try clear hcz52_3
    try clear hcz55_0
    try clear hcz55_1
    try clear hcz55_10
    try clear hcz55_11
    try clear hcz55_12
    try clear hcz55_13
    try clear hcz55_14
    try clear hcz55_15
    try clear hcz55_16
    try clear hcz55_17
    try clear hcz55_18
    try clear hcz55_19
    try clear hcz55_2
    try clear hcz55_20
    try clear hcz55_3
    try clear hcz55_4
    try clear hcz55_5
    try clear hcz55_6
    try clear hcz55_7
    try clear hcz55_8
    try clear hcz55_9
    try clear hcz56_0
    try clear hcz56_1
    try clear hcz56_2
    try clear hcz59_0
    try clear hcz59_1
    try clear hcz59_2
    try clear hcz59_3
    try clear hcz62_0
    try clear hcz62_1
    try clear hcz62_10
    try clear hcz62_11
    try clear hcz62_12
    try clear hcz62_13
    try clear hcz62_14
    try clear hcz62_15
    try clear hcz62_16
    try clear hcz62_17
    try clear hcz62_18
    try clear hcz62_19
    try clear hcz62_2
    try clear hcz62_20
    try clear hcz62_3
    try clear hcz62_4
    try clear hcz62_5
    try clear hcz62_6
    try clear hcz62_7
    try clear hcz62_8
    try clear hcz62_9
    try clear hcz63_0
    try clear hcz63_1
    try clear hcz63_2
    try clear hcz66_0
    try clear hcz66_1
    try clear hcz66_2
    try clear hcz66_3
    try clear hcz69_0
    try clear hcz69_1
    try clear hcz69_10
    try clear hcz69_11
    try clear hcz69_12
    try clear hcz69_13
    try clear hcz69_14
    try clear hcz69_15
    try clear hcz69_16
    try clear hcz69_17
    try clear hcz69_18
    try clear hcz69_19
    try clear hcz69_2
    try clear hcz69_20
    try clear hcz69_3
    try clear hcz69_4
    try clear hcz69_5
    try clear hcz69_6
    try clear hcz69_7
    try clear hcz69_8
    try clear hcz69_9
    try clear hcz72_0
    try clear hcz72_1
    try clear hcz72_2
    try clear hcz72_3
    try clear hcz9_0
    try clear hcz9_1
    try clear hcz9_2
    try clear hfz14_0
    try clear hfz14_1
    try clear hfz14_10
    try clear hfz14_11
    try clear hfz14_12
    try clear hfz14_13
    try clear hfz14_14
    try clear hfz14_15
    try clear hfz14_16
    try clear hfz14_17
    try clear hfz14_18
    try clear hfz14_19
    try clear hfz14_2
    try clear hfz14_20
    try clear hfz14_3
    try clear hfz14_4
    try clear hfz14_5
    try clear hfz14_6
    try clear hfz14_7
    try clear hfz14_8
    try clear hfz14_9
    try clear hfz20_0
    try clear hfz20_1
    try clear hfz20_2
    try clear hfz20_3
    try clear hfz25_0
    try clear hfz25_1
    try clear hfz25_2
    try clear hfz29_0
    try clear hfz29_1
    try clear hfz29_2
    try clear hfz32_0
    try clear hfz32_1
    try clear hfz32_2
    try clear hfz38_0
    try clear hfz38_1
    try clear hfz38_2
    try clear hfz38_3
    try clear hfz43_0
    try clear hfz43_1
    try clear hfz43_2
    try clear hfz43_3
    try clear hfz46_0
    try clear hfz46_1
    try clear hfz46_10
    try clear hfz46_11
    try clear hfz46_12
    try clear hfz46_13
    try clear hfz46_14
    try clear hfz46_15
    try clear hfz46_16
    try clear hfz46_17
    try clear hfz46_18
    try clear hfz46_19
    try clear hfz46_2
    try clear hfz46_20
    try clear hfz46_3
    try clear hfz46_4
    try clear hfz46_5
    try clear hfz46_6
    try clear hfz46_7
    try clear hfz46_8
    try clear hfz46_9
    try clear hfz52_0
    try clear hfz52_1
    try clear hfz52_2
    try clear hfz52_3
    try clear hfz55_0
    try clear hfz55_1
    try clear hfz55_10
    try clear hfz55_11
    try clear hfz55_12
    try clear hfz55_13
    try clear hfz55_14
    try clear hfz55_15
    try clear hfz55_16
    try clear hfz55_17
    try clear hfz55_18
    try clear hfz55_19
    try clear hfz55_2
    try clear hfz55_20
    try clear hfz55_3
    try clear hfz55_4
    try clear hfz55_5
    try clear hfz55_6
    try clear hfz55_7
    try clear hfz55_8
    try clear hfz55_9
    try clear hfz56_0
    try clear hfz56_1
    try clear hfz56_2
    try clear hfz59_0
    try clear hfz59_1
    try clear hfz59_2
    try clear hfz59_3
    try clear hfz62_0
    try clear hfz62_1
    try clear hfz62_10
    try clear hfz62_11
    try clear hfz62_12
    try clear hfz62_13
    try clear hfz62_14
    try clear hfz62_15
    try clear hfz62_16
    try clear hfz62_17
    try clear hfz62_18
    try clear hfz62_19
    try clear hfz62_2
    try clear hfz62_20
    try clear hfz62_3
    try clear hfz62_4
    try clear hfz62_5
    try clear hfz62_6
    try clear hfz62_7
    try clear hfz62_8
    try clear hfz62_9
    try clear hfz63_0
    try clear hfz63_1
    try clear hfz63_2
    try clear hfz66_0
    try clear hfz66_1
    try clear hfz66_2
    try clear hfz66_3
    try clear hfz69_0
    try clear hfz69_1
    try clear hfz69_10
    try clear hfz69_11
    try clear hfz69_12
    try clear hfz69_13
    try clear hfz69_14
    try clear hfz69_15
    try clear hfz69_16
    try clear hfz69_17
    try clear hfz69_18
    try clear hfz69_19
    try clear hfz69_2
    try clear hfz69_20
    try clear hfz69_3
    try clear hfz69_4
    try clear hfz69_5
    try clear hfz69_6
    try clear hfz69_7
    try clear hfz69_8
    try clear hfz69_9
    try clear hfz72_0
    try clear hfz72_1
    try clear hfz72_2
    try clear hfz72_3
    try clear hfz9_0
    try clear hfz9_1
    try clear hfz9_2
    try clear p2
    obtain ⟨kq, HA, HJ4, BK180, BK181, BK203, HB⟩ := hcut
    cases kq with
    | zero => exact absurd HA.out (by simp [may_Store.j1])
    | succ kj4 =>
      have H := HA.out
      clear HA
      simp only [may_Store.j1] at H
      have HC74 := Aside0.mk H
      clear H
      go_upto_if 49 with (fail)
      go_cut [] (fun wc => ∃ (kq : Nat), Aside0 (may_Store.j2 kq a0 a2_0 l2_1 l2_2 t182 t183 t184 t185 t186 t187 t188 t189 t190 t191 t192 t193 t194 t195 t196 t197 t198 t199 t200 t201 t202 = some r) ∧ Aside0 (kq ≤ kj4) ∧ Aside0 (wc.heap[gb180]? = some (.cells #[.string a1_0, .string a1_1, .string a1_2, (.slice A1_3 l1_3.length c1_3)] 24 (0, 0))) ∧ Aside0 (wc.heap[gb181]? = some (.cells #[.int .i64 a2_0, (.slice A2_1 l2_1.length c2_1), (.slice A2_2 l2_2.length c2_2)] 27 (0, 0))) ∧ Aside0 (wc.heap[gb203]? = some (.cells #[.bool t182, .bool t183, .bool t184, .bool t185, .bool t186, .bool t187, .bool t188, .bool t189, .bool t190, .bool t191, .bool t192, .bool t193, .int .i64 t194, .bool t195, .int .i64 t196, .bool t197, .int .i64 t198, .bool t199, .int .i64 t200, .bool t201, .int .i64 t202] 35 (0, 0))) ∧ Aside0 (Below w.heap.size w wc))
      case first =>
        have H := HC74.out
        clear HC74
        by_cases c75 : a0 = true
        · subst c75
          have H1 : ((may_others.f kj4 a1_0 a1_1 a1_2 l1_3 t182 t183 t184 t185 t186 t187 t188 t189 t190 t191 t192 t193 t194 t195 t196 t197 t198 t199 t200 t201 t202).bind fun t227 => (if t227 = 0 then (may_Store.j2 kj4 true a2_0 l2_1 l2_2 t182 t183 t184 t185 t186 t187 t188 t189 t190 t191 t192 t193 t194 t195 t196 t197 t198 t199 t200 t201 t202) else (some t227))) = some r := by rw [if_pos rfl] at H; exact H
          clear H
          have H := H1
          clear H1
          replace H := Option.bind_eq_some_iff.mp H
          obtain ⟨t227, A760, H⟩ := H
          replace H : (if t227 = 0 then (may_Store.j2 kj4 true a2_0 l2_1 l2_2 t182 t183 t184 t185 t186 t187 t188 t189 t190 t191 t192 t193 t194 t195 t196 t197 t198 t199 t200 t201 t202) else (some t227)) = some r := H
          have A76 := Aside0.mk A760
          clear A760
          by_cases c77 : t227 = 0
          · rw [if_pos c77] at H
            have c77b0 : (t227 == 0) = true := beq_iff_eq.mpr c77
            have c77b1 : (t227 != 0) = false := bne_eq_false_iff_eq.mpr c77
            clear c77
            (first | rw [c77b0] | (simp only [i64_w, i32_w]; rw [c77b0]) | skip)
            have H' := Aside0.mk H
            clear H
            have hnb78 := NB180_181.out
            have hnc78 := NB181_180.out
            have hnb79 := NB180_203.out
            have hnc79 := NB203_180.out
            have hcz80_0 : wc.cell? ⟨gb180, 0, none⟩ = some (.string a1_0) := (blk_cell BK180.out 0).trans rfl
            have hcz80_1 : wc.cell? ⟨gb180, 1, none⟩ = some (.string a1_1) := (blk_cell BK180.out 1).trans rfl
            have hcz80_2 : wc.cell? ⟨gb180, 2, none⟩ = some (.string a1_2) := (blk_cell BK180.out 2).trans rfl
            have hcz80_3 : wc.cell? ⟨gb180, 3, none⟩ = some (.slice A1_3 l1_3.length c1_3) := (blk_cell BK180.out 3).trans rfl
            have hfz80_0 := blk_frozen BK180.out 0
            have hfz80_1 := blk_frozen BK180.out 1
            have hfz80_2 := blk_frozen BK180.out 2
            have hfz80_3 := blk_frozen BK180.out 3
            have hnb81 := NB203_181.out
            have hnc81 := NB181_203.out
            go_wp2_with (first | ((with_reducible refine gate_dst (N := 51) rfl ?_); refine wpList_load_row rfl 35 (.tmp 7) rfl gb203 rfl 35 #[.bool t182, .bool t183, .bool t184, .bool t185, .bool t186, .bool t187, .bool t188, .bool t189, .bool t190, .bool t191, .bool t192, .bool t193, .int .i64 t194, .bool t195, .int .i64 t196, .bool t197, .int .i64 t198, .bool t199, .int .i64 t200, .bool t201, .int .i64 t202] (0, 0) _ (by (with_reducible repeat (first | refine blk_drewN ?_ _ | refine blk_drew ?_ | refine blk_alloc ?_ _)); exact BK203.out) hu35 rfl (by kernel_rfl) ?_) | ((with_reducible refine gate_store (t := 35) rfl ?_); refine wpList_store_row rfl 35 _ _ rfl _ _ rfl rfl 35 _ (by first | exact blk_new _ _ | exact blk_alloc (blk_new _ _) _) (by kernel_rfl) rfl (by simp [Value.oneCell']) ?_; (first | rw [Own.alloc_setRow] | rw [Own.alloc2_setRow0] | rw [Own.alloc2_setRow1])) | ((with_reducible refine gate_callee (f := 18) rfl ?_); refine goesL_ (some 52) rfl rfl Tryd.func18 (by kernel_rfl) rfl #[.agg #[.string a1_0, .string a1_1, .string a1_2, .slice A1_3 l1_3.length c1_3], .agg #[.bool t182, .bool t183, .bool t184, .bool t185, .bool t186, .bool t187, .bool t188, .bool t189, .bool t190, .bool t191, .bool t192, .bool t193, .int .i64 t194, .bool t195, .int .i64 t196, .bool t197, .int .i64 t198, .bool t199, .int .i64 t200, .bool t201, .int .i64 t202]] rfl (by (try simp only [List.map_toArray, List.map_cons, List.map_nil]); first | done | rfl | (simp only [List.length_drop, List.length_take]; rfl)) ?_; (with_reducible refine (may_others.calls kj4 a1_0 a1_1 a1_2 _ _ l1_3 t182 t183 t184 t185 t186 t187 t188 t189 t190 t191 t192 t193 t194 t195 t196 t197 t198 t199 t200 t201 t202 t227 _ ?side1 ?side2 A76.out).mono ?_); (case side1 => repeat (first | exact (Kd.C_below HR1_3.out HB.out) | (with_reducible refine Kd.C_alloc ?_ _) | (with_reducible refine Kd.C_drewN ?_ _) | (with_reducible refine Kd.C_drew ?_))); (case side2 => exact HC1_3.out); rintro e w83 ⟨rfl, hb⟩; refine ⟨_, rfl, ?_⟩; have n0_ := Aside0.mk (blk_below (g := gb180) (o := .cells #[.string a1_0, .string a1_1, .string a1_2, .slice A1_3 l1_3.length c1_3] 24 (0, 0)) (by (with_reducible repeat (first | refine blk_drewN ?_ _ | refine blk_drew ?_ | refine blk_alloc ?_ _)); exact BK180.out) hb); have n1_ := Aside0.mk (blk_below (g := gb181) (o := .cells #[.int .i64 a2_0, .slice A2_1 l2_1.length c2_1, .slice A2_2 l2_2.length c2_2] 27 (0, 0)) (by (with_reducible repeat (first | refine blk_drewN ?_ _ | refine blk_drew ?_ | refine blk_alloc ?_ _)); exact BK181.out) hb); have n2_ := Aside0.mk (blk_below (g := gb203) (o := .cells #[.bool t182, .bool t183, .bool t184, .bool t185, .bool t186, .bool t187, .bool t188, .bool t189, .bool t190, .bool t191, .bool t192, .bool t193, .int .i64 t194, .bool t195, .int .i64 t196, .bool t197, .int .i64 t198, .bool t199, .int .i64 t200, .bool t201, .int .i64 t202] 35 (0, 0)) (by (with_reducible repeat (first | refine blk_drewN ?_ _ | refine blk_drew ?_ | refine blk_alloc ?_ _)); exact BK203.out) hb); have n3_ := Aside0.mk (below_step (by repeat (first | (with_reducible first | exact HB.out | apply below_alloc | apply pw_below_drewN | apply below_drew1 | refine below_set ?_ GE180.out | refine below_set ?_ GE181.out | refine below_set ?_ GE203.out) | exact HB.out)) hb); clear BK180; clear BK181; clear BK203; clear HB; have BK180 := n0_; have BK181 := n1_; have BK203 := n2_; have HB := n3_; clear n0_ n1_ n2_ n3_; (try clear hb); (try clear hb2); (try clear hk); (try clear hi)))
            go_meet
            case rel => exact ⟨_, H', ⟨by have := HJ4.out; first | omega | exact Nat.le_refl _⟩, ⟨by (with_reducible repeat (first | refine blk_drewN ?_ _ | refine blk_drew ?_ | refine blk_alloc ?_ _)); exact BK180.out⟩, ⟨by (with_reducible repeat (first | refine blk_drewN ?_ _ | refine blk_drew ?_ | refine blk_alloc ?_ _)); exact BK181.out⟩, ⟨by (with_reducible repeat (first | refine blk_drewN ?_ _ | refine blk_drew ?_ | refine blk_alloc ?_ _)); exact BK203.out⟩, ⟨by repeat (first | (with_reducible first | exact HB.out | apply below_alloc | apply pw_below_drewN | apply below_drew1 | refine below_set ?_ GE180.out | refine below_set ?_ GE181.out | refine below_set ?_ GE203.out) | exact HB.out)⟩⟩
          · rw [if_neg c77] at H
            have c77b0 : (t227 == 0) = false := beq_eq_false_iff_ne.mpr c77
            have c77b1 : (t227 != 0) = true := bne_iff_ne.mpr c77
            (first | rw [c77b0] | (simp only [i64_w, i32_w]; rw [c77b0]) | skip)
            obtain rfl := Option.some.inj H
            have hnb84 := NB180_181.out
            have hnc84 := NB181_180.out
            have hnb85 := NB180_203.out
            have hnc85 := NB203_180.out
            have hcz86_0 : wc.cell? ⟨gb180, 0, none⟩ = some (.string a1_0) := (blk_cell BK180.out 0).trans rfl
            have hcz86_1 : wc.cell? ⟨gb180, 1, none⟩ = some (.string a1_1) := (blk_cell BK180.out 1).trans rfl
            have hcz86_2 : wc.cell? ⟨gb180, 2, none⟩ = some (.string a1_2) := (blk_cell BK180.out 2).trans rfl
            have hcz86_3 : wc.cell? ⟨gb180, 3, none⟩ = some (.slice A1_3 l1_3.length c1_3) := (blk_cell BK180.out 3).trans rfl
            have hfz86_0 := blk_frozen BK180.out 0
            have hfz86_1 := blk_frozen BK180.out 1
            have hfz86_2 := blk_frozen BK180.out 2
            have hfz86_3 := blk_frozen BK180.out 3
            have hnb87 := NB203_181.out
            have hnc87 := NB181_203.out
            go_wp2_with (first | ((with_reducible refine gate_dst (N := 51) rfl ?_); refine wpList_load_row rfl 35 (.tmp 7) rfl gb203 rfl 35 #[.bool t182, .bool t183, .bool t184, .bool t185, .bool t186, .bool t187, .bool t188, .bool t189, .bool t190, .bool t191, .bool t192, .bool t193, .int .i64 t194, .bool t195, .int .i64 t196, .bool t197, .int .i64 t198, .bool t199, .int .i64 t200, .bool t201, .int .i64 t202] (0, 0) _ (by (with_reducible repeat (first | refine blk_drewN ?_ _ | refine blk_drew ?_ | refine blk_alloc ?_ _)); exact BK203.out) hu35 rfl (by kernel_rfl) ?_) | ((with_reducible refine gate_store (t := 35) rfl ?_); refine wpList_store_row rfl 35 _ _ rfl _ _ rfl rfl 35 _ (by first | exact blk_new _ _ | exact blk_alloc (blk_new _ _) _) (by kernel_rfl) rfl (by simp [Value.oneCell']) ?_; (first | rw [Own.alloc_setRow] | rw [Own.alloc2_setRow0] | rw [Own.alloc2_setRow1])) | ((with_reducible refine gate_callee (f := 18) rfl ?_); refine goesL_ (some 52) rfl rfl Tryd.func18 (by kernel_rfl) rfl #[.agg #[.string a1_0, .string a1_1, .string a1_2, .slice A1_3 l1_3.length c1_3], .agg #[.bool t182, .bool t183, .bool t184, .bool t185, .bool t186, .bool t187, .bool t188, .bool t189, .bool t190, .bool t191, .bool t192, .bool t193, .int .i64 t194, .bool t195, .int .i64 t196, .bool t197, .int .i64 t198, .bool t199, .int .i64 t200, .bool t201, .int .i64 t202]] rfl (by (try simp only [List.map_toArray, List.map_cons, List.map_nil]); first | done | rfl | (simp only [List.length_drop, List.length_take]; rfl)) ?_; (with_reducible refine (may_others.calls kj4 a1_0 a1_1 a1_2 _ _ l1_3 t182 t183 t184 t185 t186 t187 t188 t189 t190 t191 t192 t193 t194 t195 t196 t197 t198 t199 t200 t201 t202 t227 _ ?side1 ?side2 A76.out).mono ?_); (case side1 => repeat (first | exact (Kd.C_below HR1_3.out HB.out) | (with_reducible refine Kd.C_alloc ?_ _) | (with_reducible refine Kd.C_drewN ?_ _) | (with_reducible refine Kd.C_drew ?_))); (case side2 => exact HC1_3.out); rintro e w89 ⟨rfl, hb⟩; refine ⟨_, rfl, ?_⟩; have n0_ := Aside0.mk (blk_below (g := gb180) (o := .cells #[.string a1_0, .string a1_1, .string a1_2, .slice A1_3 l1_3.length c1_3] 24 (0, 0)) (by (with_reducible repeat (first | refine blk_drewN ?_ _ | refine blk_drew ?_ | refine blk_alloc ?_ _)); exact BK180.out) hb); have n1_ := Aside0.mk (blk_below (g := gb181) (o := .cells #[.int .i64 a2_0, .slice A2_1 l2_1.length c2_1, .slice A2_2 l2_2.length c2_2] 27 (0, 0)) (by (with_reducible repeat (first | refine blk_drewN ?_ _ | refine blk_drew ?_ | refine blk_alloc ?_ _)); exact BK181.out) hb); have n2_ := Aside0.mk (blk_below (g := gb203) (o := .cells #[.bool t182, .bool t183, .bool t184, .bool t185, .bool t186, .bool t187, .bool t188, .bool t189, .bool t190, .bool t191, .bool t192, .bool t193, .int .i64 t194, .bool t195, .int .i64 t196, .bool t197, .int .i64 t198, .bool t199, .int .i64 t200, .bool t201, .int .i64 t202] 35 (0, 0)) (by (with_reducible repeat (first | refine blk_drewN ?_ _ | refine blk_drew ?_ | refine blk_alloc ?_ _)); exact BK203.out) hb); have n3_ := Aside0.mk (below_step (by repeat (first | (with_reducible first | exact HB.out | apply below_alloc | apply pw_below_drewN | apply below_drew1 | refine below_set ?_ GE180.out | refine below_set ?_ GE181.out | refine below_set ?_ GE203.out) | exact HB.out)) hb); clear BK180; clear BK181; clear BK203; clear HB; have BK180 := n0_; have BK181 := n1_; have BK203 := n2_; have HB := n3_; clear n0_ n1_ n2_ n3_; (try clear hb); (try clear hb2); (try clear hk); (try clear hi)))
            go_ret
            exact ⟨by first | rfl | (simp [errW_none, errW_some] <;> rfl) | (simp [*, errW_none, errW_some] <;> rfl), by repeat (first | (with_reducible first | exact HB.out | apply below_alloc | apply pw_below_drewN | apply below_drew1 | refine below_set ?_ GE180.out | refine below_set ?_ GE181.out | refine below_set ?_ GE203.out) | exact HB.out)⟩
        · replace c75 := Bool.eq_false_iff.mpr c75
          subst c75
          have H1 : (may_Store.j2 kj4 false a2_0 l2_1 l2_2 t182 t183 t184 t185 t186 t187 t188 t189 t190 t191 t192 t193 t194 t195 t196 t197 t198 t199 t200 t201 t202) = some r := by rw [if_neg (show ¬ (false = true) by decide)] at H; exact H
          clear H
          have H := H1
          clear H1
          have H' := Aside0.mk H
          clear H
          go_wp2_with (first | ((with_reducible refine gate_store (t := 35) rfl ?_); refine wpList_store_row rfl 35 _ _ rfl _ _ rfl rfl 35 _ (by first | exact blk_new _ _ | exact blk_alloc (blk_new _ _) _) (by kernel_rfl) rfl (by simp [Value.oneCell']) ?_; (first | rw [Own.alloc_setRow] | rw [Own.alloc2_setRow0] | rw [Own.alloc2_setRow1])))
          go_meet
          case rel => exact ⟨_, H', ⟨by have := HJ4.out; first | omega | exact Nat.le_refl _⟩, ⟨by (with_reducible repeat (first | refine blk_drewN ?_ _ | refine blk_drew ?_ | refine blk_alloc ?_ _)); exact BK180.out⟩, ⟨by (with_reducible repeat (first | refine blk_drewN ?_ _ | refine blk_drew ?_ | refine blk_alloc ?_ _)); exact BK181.out⟩, ⟨by (with_reducible repeat (first | refine blk_drewN ?_ _ | refine blk_drew ?_ | refine blk_alloc ?_ _)); exact BK203.out⟩, ⟨by repeat (first | (with_reducible first | exact HB.out | apply below_alloc | apply pw_below_drewN | apply below_drew1 | refine below_set ?_ GE180.out | refine below_set ?_ GE181.out | refine below_set ?_ GE203.out) | exact HB.out)⟩⟩
      case rest =>
        clear HC74
        try clear c1
        try clear c2
        try clear p2
        try clear c3
        try clear c4
        try clear c5
        try clear c6
        try clear c7
        try clear c8
        try clear c9
        try clear c12
        try clear c13
        try clear c16
        try clear c17
        try clear c18
        try clear c19
        try clear c22
        try clear c22b0
        try clear c23
        try clear c24
        try clear c26
        try clear c26b0
        try clear c26b1
        try clear c27
        try clear c28
        try clear c30
        try clear c31
        try clear c33
        try clear c35
        try clear c36
        try clear c37
        try clear c40
        try clear c41
        try clear c42
        try clear c45
        try clear c47
        try clear c49
        try clear c50
        try clear c51
        try clear c54
        try clear c57
        try clear c58
        try clear c61
        try clear c64
        try clear c65
        try clear c68
        try clear c70
        try clear c71
        try clear c75
        try clear c77
        try clear c77b0
        try clear c77b1
        try clear c78
        try clear c79
        try clear c81
        try clear c84
        try clear c85
        try clear c87
        try clear hcz14_0
        try clear hcz14_1
        try clear hcz14_10
        try clear hcz14_11
        try clear hcz14_12
        try clear hcz14_13
        try clear hcz14_14
        try clear hcz14_15
        try clear hcz14_16
        try clear hcz14_17
        try clear hcz14_18
        try clear hcz14_19
        try clear hcz14_2
        try clear hcz14_20
        try clear hcz14_3
        try clear hcz14_4
        try clear hcz14_5
        try clear hcz14_6
        try clear hcz14_7
        try clear hcz14_8
        try clear hcz14_9
        try clear hcz20_0
        try clear hcz20_1
        try clear hcz20_2
        try clear hcz20_3
        try clear hcz25_0
        try clear hcz25_1
        try clear hcz25_2
        try clear hcz29_0
        try clear hcz29_1
        try clear hcz29_2
        try clear hcz32_0
        try clear hcz32_1
        try clear hcz32_2
        try clear hcz38_0
        try clear hcz38_1
        try clear hcz38_2
        try clear hcz38_3
        try clear hcz43_0
        try clear hcz43_1
        try clear hcz43_2
        try clear hcz43_3
        try clear hcz46_0
        try clear hcz46_1
        try clear hcz46_10
        try clear hcz46_11
        try clear hcz46_12
        try clear hcz46_13
        try clear hcz46_14
        try clear hcz46_15
        try clear hcz46_16
        try clear hcz46_17
        try clear hcz46_18
        try clear hcz46_19
        try clear hcz46_2
        try clear hcz46_20
        try clear hcz46_3
        try clear hcz46_4
        try clear hcz46_5
        try clear hcz46_6
        try clear hcz46_7
        try clear hcz46_8
        try clear hcz46_9
        try clear hcz52_0
        try clear hcz52_1
        try clear hcz52_2
        try clear hcz52_3
        try clear hcz55_0
        try clear hcz55_1
        try clear hcz55_10
        try clear hcz55_11
        try clear hcz55_12
        try clear hcz55_13
        try clear hcz55_14
        try clear hcz55_15
        try clear hcz55_16
        try clear hcz55_17
        try clear hcz55_18
        try clear hcz55_19
        try clear hcz55_2
        try clear hcz55_20
        try clear hcz55_3
        try clear hcz55_4
        try clear hcz55_5
        try clear hcz55_6
        try clear hcz55_7
        try clear hcz55_8
        try clear hcz55_9
        try clear hcz56_0
        try clear hcz56_1
        try clear hcz56_2
        try clear hcz59_0
        try clear hcz59_1
        try clear hcz59_2
        try clear hcz59_3
        try clear hcz62_0
        try clear hcz62_1
        try clear hcz62_10
        try clear hcz62_11
        try clear hcz62_12
        try clear hcz62_13
        try clear hcz62_14
        try clear hcz62_15
        try clear hcz62_16
        try clear hcz62_17
        try clear hcz62_18
        try clear hcz62_19
        try clear hcz62_2
        try clear hcz62_20
        try clear hcz62_3
        try clear hcz62_4
        try clear hcz62_5
        try clear hcz62_6
        try clear hcz62_7
        try clear hcz62_8
        try clear hcz62_9
        try clear hcz63_0
        try clear hcz63_1
        try clear hcz63_2
        try clear hcz66_0
        try clear hcz66_1
        try clear hcz66_2
        try clear hcz66_3
        try clear hcz69_0
        try clear hcz69_1
        try clear hcz69_10
        try clear hcz69_11
        try clear hcz69_12
        try clear hcz69_13
        try clear hcz69_14
        try clear hcz69_15
        try clear hcz69_16
        try clear hcz69_17
        try clear hcz69_18
        try clear hcz69_19
        try clear hcz69_2
        try clear hcz69_20
        try clear hcz69_3
        try clear hcz69_4
        try clear hcz69_5
        try clear hcz69_6
        try clear hcz69_7
        try clear hcz69_8
        try clear hcz69_9
        try clear hcz72_0
        try clear hcz72_1
        try clear hcz72_2
        try clear hcz72_3
        try clear hcz80_0
        try clear hcz80_1
        try clear hcz80_2
        try clear hcz80_3
        try clear hcz82_0
        try clear hcz82_1
        try clear hcz82_10
        try clear hcz82_11
        try clear hcz82_12
        try clear hcz82_13
        try clear hcz82_14
        try clear hcz82_15
        try clear hcz82_16
        try clear hcz82_17
        try clear hcz82_18
        try clear hcz82_19
        try clear hcz82_2
        try clear hcz82_20
        try clear hcz82_3
        try clear hcz82_4
        try clear hcz82_5
        try clear hcz82_6
        try clear hcz82_7
        try clear hcz82_8
        try clear hcz82_9
        try clear hcz86_0
        try clear hcz86_1
        try clear hcz86_2
        try clear hcz86_3
        try clear hcz88_0
        try clear hcz88_1
        try clear hcz88_10
        try clear hcz88_11
        try clear hcz88_12
        try clear hcz88_13
        try clear hcz88_14
        try clear hcz88_15
        try clear hcz88_16
        try clear hcz88_17
        try clear hcz88_18
        try clear hcz88_19
        try clear hcz88_2
        try clear hcz88_20
        try clear hcz88_3
        try clear hcz88_4
        try clear hcz88_5
        try clear hcz88_6
        try clear hcz88_7
        try clear hcz88_8
        try clear hcz88_9
        try clear hcz9_0
        try clear hcz9_1
        try clear hcz9_2
        try clear hfz14_0
        try clear hfz14_1
        try clear hfz14_10
        try clear hfz14_11
        try clear hfz14_12
        try clear hfz14_13
        try clear hfz14_14
        try clear hfz14_15
        try clear hfz14_16
        try clear hfz14_17
        try clear hfz14_18
        try clear hfz14_19
        try clear hfz14_2
        try clear hfz14_20
        try clear hfz14_3
        try clear hfz14_4
        try clear hfz14_5
        try clear hfz14_6
        try clear hfz14_7
        try clear hfz14_8
        try clear hfz14_9
        try clear hfz20_0
        try clear hfz20_1
        try clear hfz20_2
        try clear hfz20_3
        try clear hfz25_0
        try clear hfz25_1
        try clear hfz25_2
        try clear hfz29_0
        try clear hfz29_1
        try clear hfz29_2
        try clear hfz32_0
        try clear hfz32_1
        try clear hfz32_2
        try clear hfz38_0
        try clear hfz38_1
        try clear hfz38_2
        try clear hfz38_3
        try clear hfz43_0
        try clear hfz43_1
        try clear hfz43_2
        try clear hfz43_3
        try clear hfz46_0
        try clear hfz46_1
        try clear hfz46_10
        try clear hfz46_11
        try clear hfz46_12
        try clear hfz46_13
        try clear hfz46_14
        try clear hfz46_15
        try clear hfz46_16
        try clear hfz46_17
        try clear hfz46_18
        try clear hfz46_19
        try clear hfz46_2
        try clear hfz46_20
        try clear hfz46_3
        try clear hfz46_4
        try clear hfz46_5
        try clear hfz46_6
        try clear hfz46_7
        try clear hfz46_8
        try clear hfz46_9
        try clear hfz52_0
        try clear hfz52_1
        try clear hfz52_2
        try clear hfz52_3
        try clear hfz55_0
        try clear hfz55_1
        try clear hfz55_10
        try clear hfz55_11
        try clear hfz55_12
        try clear hfz55_13
        try clear hfz55_14
        try clear hfz55_15
        try clear hfz55_16
        try clear hfz55_17
        try clear hfz55_18
        try clear hfz55_19
        try clear hfz55_2
        try clear hfz55_20
        try clear hfz55_3
        try clear hfz55_4
        try clear hfz55_5
        try clear hfz55_6
        try clear hfz55_7
        try clear hfz55_8
        try clear hfz55_9
        try clear hfz56_0
        try clear hfz56_1
        try clear hfz56_2
        try clear hfz59_0
        try clear hfz59_1
        try clear hfz59_2
        try clear hfz59_3
        try clear hfz62_0
        try clear hfz62_1
        try clear hfz62_10
        try clear hfz62_11
        try clear hfz62_12
        try clear hfz62_13
        try clear hfz62_14
        try clear hfz62_15
        try clear hfz62_16
        try clear hfz62_17
        try clear hfz62_18
        try clear hfz62_19
        try clear hfz62_2
        try clear hfz62_20
        try clear hfz62_3
        try clear hfz62_4
        try clear hfz62_5
        try clear hfz62_6
        try clear hfz62_7
        try clear hfz62_8
        try clear hfz62_9
        try clear hfz63_0
        try clear hfz63_1
        try clear hfz63_2
        try clear hfz66_0
        try clear hfz66_1
        try clear hfz66_2
        try clear hfz66_3
        try clear hfz69_0
        try clear hfz69_1
        try clear hfz69_10
        try clear hfz69_11
        try clear hfz69_12
        try clear hfz69_13
        try clear hfz69_14
        try clear hfz69_15
        try clear hfz69_16
        try clear hfz69_17
        try clear hfz69_18
        try clear hfz69_19
        try clear hfz69_2
        try clear hfz69_20
        try clear hfz69_3
        try clear hfz69_4
        try clear hfz69_5
        try clear hfz69_6
        try clear hfz69_7
        try clear hfz69_8
        try clear hfz69_9
        try clear hfz72_0
        try clear hfz72_1
        try clear hfz72_2
        try clear hfz72_3
        try clear hfz80_0
        try clear hfz80_1
        try clear hfz80_2
        try clear hfz80_3
        try clear hfz82_0
        try clear hfz82_1
        try clear hfz82_10
        try clear hfz82_11
        try clear hfz82_12
        try clear hfz82_13
        try clear hfz82_14
        try clear hfz82_15
        try clear hfz82_16
        try clear hfz82_17
        try clear hfz82_18
        try clear hfz82_19
        try clear hfz82_2
        try clear hfz82_20
        try clear hfz82_3
        try clear hfz82_4
        try clear hfz82_5
        try clear hfz82_6
        try clear hfz82_7
        try clear hfz82_8
        try clear hfz82_9
        try clear hfz86_0
        try clear hfz86_1
        try clear hfz86_2
        try clear hfz86_3
        try clear hfz88_0
        try clear hfz88_1
        try clear hfz88_10
        try clear hfz88_11
        try clear hfz88_12
        try clear hfz88_13
        try clear hfz88_14
        try clear hfz88_15
        try clear hfz88_16
        try clear hfz88_17
        try clear hfz88_18
        try clear hfz88_19
        try clear hfz88_2
        try clear hfz88_20
        try clear hfz88_3
        try clear hfz88_4
        try clear hfz88_5
        try clear hfz88_6
        try clear hfz88_7
        try clear hfz88_8
        try clear hfz88_9
        try clear hfz9_0
        try clear hfz9_1
        try clear hfz9_2
        try clear p2
        obtain ⟨kq, HA, HJ73, BK180, BK181, BK203, HB⟩ := hcut
        cases kq with
        | zero => exact absurd HA.out (by simp [may_Store.j2])
        | succ kj73 =>
          have H := HA.out
          clear HA
          simp only [may_Store.j2] at H
          replace H := Option.bind_eq_some_iff.mp H
          obtain ⟨t228, A900, H⟩ := H
          replace H : ((vary_Parse.f kj73 t228).bind fun bt231 => (if bt231.1 = true then (some 6) else ((age_Explicit.f kj73 a0 l2_1).bind fun t235 => (if t235 = true then (some 0) else (if t185 = true then (some 0) else ((age_Usual.f a2_0).bind fun t236 => (if t236 = true then (some 0) else (some 7)))))))) = some r := H
          have A90 := Aside0.mk A900
          clear A900
          replace H := Option.bind_eq_some_iff.mp H
          obtain ⟨⟨t231, t232⟩, A910, H⟩ := H
          replace H : (if t231 = true then (some 6) else ((age_Explicit.f kj73 a0 l2_1).bind fun t235 => (if t235 = true then (some 0) else (if t185 = true then (some 0) else ((age_Usual.f a2_0).bind fun t236 => (if t236 = true then (some 0) else (some 7))))))) = some r := H
          have A91 := Aside0.mk A910
          clear A910
          by_cases c92 : t231 = true
          · subst c92
            have H1 : (some 6) = some r := by rw [if_pos rfl] at H; exact H
            clear H
            have H := H1
            clear H1
            obtain rfl := Option.some.inj H
            have hnb93 := NB181_180.out
            have hnc93 := NB180_181.out
            have hnb94 := NB181_203.out
            have hnc94 := NB203_181.out
            have hcz95_0 : wc.cell? ⟨gb181, 0, none⟩ = some (.int .i64 a2_0) := (blk_cell BK181.out 0).trans rfl
            have hcz95_1 : wc.cell? ⟨gb181, 1, none⟩ = some (.slice A2_1 l2_1.length c2_1) := (blk_cell BK181.out 1).trans rfl
            have hcz95_2 : wc.cell? ⟨gb181, 2, none⟩ = some (.slice A2_2 l2_2.length c2_2) := (blk_cell BK181.out 2).trans rfl
            have hfz95_0 := blk_frozen BK181.out 0
            have hfz95_1 := blk_frozen BK181.out 1
            have hfz95_2 := blk_frozen BK181.out 2
            go_wp2_with (first | ((with_reducible refine gate_store (t := 35) rfl ?_); refine wpList_store_row rfl 35 _ _ rfl _ _ rfl rfl 35 _ (by first | exact blk_new _ _ | exact blk_alloc (blk_new _ _) _) (by kernel_rfl) rfl (by simp [Value.oneCell']) ?_; (first | rw [Own.alloc_setRow] | rw [Own.alloc2_setRow0] | rw [Own.alloc2_setRow1])) | ((with_reducible refine gate_callee (f := 11) rfl ?_); refine goesL_ (some 59) rfl rfl Tryd.func11 (by kernel_rfl) rfl #[.slice A2_1 l2_1.length c2_1, .string (⟨#[86, 97, 114, 121]⟩ : ByteArray)] rfl (by (try simp only [List.map_toArray, List.map_cons, List.map_nil]); first | done | rfl | (simp only [List.length_drop, List.length_take]; rfl)) ?_; (with_reducible refine (head_All.calls kj73 _ _ l2_1 (⟨#[86, 97, 114, 121]⟩ : ByteArray) t228 _ ?side1 ?side2 A90.out).mono ?_); (case side1 => repeat (first | exact (Kd.C_below HR2_1.out HB.out) | (with_reducible refine Kd.C_alloc ?_ _) | (with_reducible refine Kd.C_drewN ?_ _) | (with_reducible refine Kd.C_drew ?_))); (case side2 => exact HC2_1.out); rintro e w96 ⟨v229, rfl, ho0, hb⟩; refine ⟨_, rfl, ?_⟩; have n0_ := Aside0.mk (Kd.R_lower ho0 (below_size (by repeat (first | (with_reducible first | exact HB.out | apply below_alloc | apply pw_below_drewN | apply below_drew1 | refine below_set ?_ GE180.out | refine below_set ?_ GE181.out | refine below_set ?_ GE203.out) | exact HB.out)))); have n1_ := Aside0.mk (blk_below (g := gb180) (o := .cells #[.string a1_0, .string a1_1, .string a1_2, .slice A1_3 l1_3.length c1_3] 24 (0, 0)) (by (with_reducible repeat (first | refine blk_drewN ?_ _ | refine blk_drew ?_ | refine blk_alloc ?_ _)); exact BK180.out) hb); have n2_ := Aside0.mk (blk_below (g := gb181) (o := .cells #[.int .i64 a2_0, .slice A2_1 l2_1.length c2_1, .slice A2_2 l2_2.length c2_2] 27 (0, 0)) (by (with_reducible repeat (first | refine blk_drewN ?_ _ | refine blk_drew ?_ | refine blk_alloc ?_ _)); exact BK181.out) hb); have n3_ := Aside0.mk (blk_below (g := gb203) (o := .cells #[.bool t182, .bool t183, .bool t184, .bool t185, .bool t186, .bool t187, .bool t188, .bool t189, .bool t190, .bool t191, .bool t192, .bool t193, .int .i64 t194, .bool t195, .int .i64 t196, .bool t197, .int .i64 t198, .bool t199, .int .i64 t200, .bool t201, .int .i64 t202] 35 (0, 0)) (by (with_reducible repeat (first | refine blk_drewN ?_ _ | refine blk_drew ?_ | refine blk_alloc ?_ _)); exact BK203.out) hb); have n4_ := Aside0.mk (below_step (by repeat (first | (with_reducible first | exact HB.out | apply below_alloc | apply pw_below_drewN | apply below_drew1 | refine below_set ?_ GE180.out | refine below_set ?_ GE181.out | refine below_set ?_ GE203.out) | exact HB.out)) hb); clear BK180; clear BK181; clear BK203; clear HB; have HO230 := n0_; have BK180 := n1_; have BK181 := n2_; have BK203 := n3_; have HB := n4_; clear n0_ n1_ n2_ n3_ n4_; (try clear hb); (try clear hb2); (try clear hk); (try clear hi); (try clear ho0); obtain ⟨Ao97, co97, eo97⟩ := Kd.R_slice HO230.out; subst eo97) | ((with_reducible refine gate_callee (f := 19) rfl ?_); refine goesL_ (some 60) rfl rfl Tryd.func19 (by kernel_rfl) rfl #[.slice Ao97 t228.length co97] rfl (by (try simp only [List.map_toArray, List.map_cons, List.map_nil]); first | done | rfl | (simp only [List.length_drop, List.length_take]; rfl)) ?_; (with_reducible refine (vary_Parse.calls kj73 _ _ t228 true t232 _ ?side1 ?side2 A91.out).mono ?_); (case side1 => repeat (first | exact (Kd.R_reads' HO230.out).2.2 | (with_reducible refine Kd.C_alloc ?_ _) | (with_reducible refine Kd.C_drewN ?_ _) | (with_reducible refine Kd.C_drew ?_))); (case side2 => exact (Kd.R_reads' HO230.out).2.1); rintro e w98 ⟨v233, rfl, ho0, hb⟩; refine ⟨_, rfl, ?_⟩; have n0_ := Aside0.mk (Kd.R_elder' (by (with_reducible repeat (first | apply Kd.R_alloc | apply Kd.R_drewN | apply Kd.R_drew)); exact HO230.out) (Kd.R_base ho0) hb); have n1_ := Aside0.mk (Kd.R_lower (Kd.R_new' ho0 (Kd.R_lt (by (with_reducible repeat (first | apply Kd.R_alloc | apply Kd.R_drewN | apply Kd.R_drew)); exact HO230.out))) (below_size (by repeat (first | (with_reducible first | exact HB.out | apply below_alloc | apply pw_below_drewN | apply below_drew1 | refine below_set ?_ GE180.out | refine below_set ?_ GE181.out | refine below_set ?_ GE203.out) | exact HB.out)))); have n2_ := Aside0.mk (blk_below (g := gb180) (o := .cells #[.string a1_0, .string a1_1, .string a1_2, .slice A1_3 l1_3.length c1_3] 24 (0, 0)) (by (with_reducible repeat (first | refine blk_drewN ?_ _ | refine blk_drew ?_ | refine blk_alloc ?_ _)); exact BK180.out) hb); have n3_ := Aside0.mk (blk_below (g := gb181) (o := .cells #[.int .i64 a2_0, .slice A2_1 l2_1.length c2_1, .slice A2_2 l2_2.length c2_2] 27 (0, 0)) (by (with_reducible repeat (first | refine blk_drewN ?_ _ | refine blk_drew ?_ | refine blk_alloc ?_ _)); exact BK181.out) hb); have n4_ := Aside0.mk (blk_below (g := gb203) (o := .cells #[.bool t182, .bool t183, .bool t184, .bool t185, .bool t186, .bool t187, .bool t188, .bool t189, .bool t190, .bool t191, .bool t192, .bool t193, .int .i64 t194, .bool t195, .int .i64 t196, .bool t197, .int .i64 t198, .bool t199, .int .i64 t200, .bool t201, .int .i64 t202] 35 (0, 0)) (by (with_reducible repeat (first | refine blk_drewN ?_ _ | refine blk_drew ?_ | refine blk_alloc ?_ _)); exact BK203.out) hb); have n5_ := Aside0.mk (below_step (by repeat (first | (with_reducible first | exact HB.out | apply below_alloc | apply pw_below_drewN | apply below_drew1 | refine below_set ?_ GE180.out | refine below_set ?_ GE181.out | refine below_set ?_ GE203.out) | exact HB.out)) hb); clear HO230; clear BK180; clear BK181; clear BK203; clear HB; have HO230 := n0_; have HO234 := n1_; have BK180 := n2_; have BK181 := n3_; have BK203 := n4_; have HB := n5_; clear n0_ n1_ n2_ n3_ n4_ n5_; (try clear hb); (try clear hb2); (try clear hk); (try clear hi); (try clear ho0)))
            go_ret
            exact ⟨by first | rfl | (simp [errW_none, errW_some] <;> rfl) | (simp [*, errW_none, errW_some] <;> rfl), by repeat (first | (with_reducible first | exact HB.out | apply below_alloc | apply pw_below_drewN | apply below_drew1 | refine below_set ?_ GE180.out | refine below_set ?_ GE181.out | refine below_set ?_ GE203.out) | exact HB.out)⟩
          · replace c92 := Bool.eq_false_iff.mpr c92
            subst c92
            have H1 : ((age_Explicit.f kj73 a0 l2_1).bind fun t235 => (if t235 = true then (some 0) else (if t185 = true then (some 0) else ((age_Usual.f a2_0).bind fun t236 => (if t236 = true then (some 0) else (some 7)))))) = some r := by rw [if_neg (show ¬ (false = true) by decide)] at H; exact H
            clear H
            have H := H1
            clear H1
            replace H := Option.bind_eq_some_iff.mp H
            obtain ⟨t235, A990, H⟩ := H
            replace H : (if t235 = true then (some 0) else (if t185 = true then (some 0) else ((age_Usual.f a2_0).bind fun t236 => (if t236 = true then (some 0) else (some 7))))) = some r := H
            have A99 := Aside0.mk A990
            clear A990
            by_cases c100 : t235 = true
            · subst c100
              have H1 : (some 0) = some r := by rw [if_pos rfl] at H; exact H
              clear H
              have H := H1
              clear H1
              obtain rfl := Option.some.inj H
              have hnb101 := NB181_180.out
              have hnc101 := NB180_181.out
              have hnb102 := NB181_203.out
              have hnc102 := NB203_181.out
              have hcz103_0 : wc.cell? ⟨gb181, 0, none⟩ = some (.int .i64 a2_0) := (blk_cell BK181.out 0).trans rfl
              have hcz103_1 : wc.cell? ⟨gb181, 1, none⟩ = some (.slice A2_1 l2_1.length c2_1) := (blk_cell BK181.out 1).trans rfl
              have hcz103_2 : wc.cell? ⟨gb181, 2, none⟩ = some (.slice A2_2 l2_2.length c2_2) := (blk_cell BK181.out 2).trans rfl
              have hfz103_0 := blk_frozen BK181.out 0
              have hfz103_1 := blk_frozen BK181.out 1
              have hfz103_2 := blk_frozen BK181.out 2
              go_wp2_with (first | ((with_reducible refine gate_store (t := 35) rfl ?_); refine wpList_store_row rfl 35 _ _ rfl _ _ rfl rfl 35 _ (by first | exact blk_new _ _ | exact blk_alloc (blk_new _ _) _) (by kernel_rfl) rfl (by simp [Value.oneCell']) ?_; (first | rw [Own.alloc_setRow] | rw [Own.alloc2_setRow0] | rw [Own.alloc2_setRow1])) | ((with_reducible refine gate_callee (f := 11) rfl ?_); refine goesL_ (some 59) rfl rfl Tryd.func11 (by kernel_rfl) rfl #[.slice A2_1 l2_1.length c2_1, .string (⟨#[86, 97, 114, 121]⟩ : ByteArray)] rfl (by (try simp only [List.map_toArray, List.map_cons, List.map_nil]); first | done | rfl | (simp only [List.length_drop, List.length_take]; rfl)) ?_; (with_reducible refine (head_All.calls kj73 _ _ l2_1 (⟨#[86, 97, 114, 121]⟩ : ByteArray) t228 _ ?side1 ?side2 A90.out).mono ?_); (case side1 => repeat (first | exact (Kd.C_below HR2_1.out HB.out) | (with_reducible refine Kd.C_alloc ?_ _) | (with_reducible refine Kd.C_drewN ?_ _) | (with_reducible refine Kd.C_drew ?_))); (case side2 => exact HC2_1.out); rintro e w104 ⟨v229, rfl, ho0, hb⟩; refine ⟨_, rfl, ?_⟩; have n0_ := Aside0.mk (Kd.R_lower ho0 (below_size (by repeat (first | (with_reducible first | exact HB.out | apply below_alloc | apply pw_below_drewN | apply below_drew1 | refine below_set ?_ GE180.out | refine below_set ?_ GE181.out | refine below_set ?_ GE203.out) | exact HB.out)))); have n1_ := Aside0.mk (blk_below (g := gb180) (o := .cells #[.string a1_0, .string a1_1, .string a1_2, .slice A1_3 l1_3.length c1_3] 24 (0, 0)) (by (with_reducible repeat (first | refine blk_drewN ?_ _ | refine blk_drew ?_ | refine blk_alloc ?_ _)); exact BK180.out) hb); have n2_ := Aside0.mk (blk_below (g := gb181) (o := .cells #[.int .i64 a2_0, .slice A2_1 l2_1.length c2_1, .slice A2_2 l2_2.length c2_2] 27 (0, 0)) (by (with_reducible repeat (first | refine blk_drewN ?_ _ | refine blk_drew ?_ | refine blk_alloc ?_ _)); exact BK181.out) hb); have n3_ := Aside0.mk (blk_below (g := gb203) (o := .cells #[.bool t182, .bool t183, .bool t184, .bool t185, .bool t186, .bool t187, .bool t188, .bool t189, .bool t190, .bool t191, .bool t192, .bool t193, .int .i64 t194, .bool t195, .int .i64 t196, .bool t197, .int .i64 t198, .bool t199, .int .i64 t200, .bool t201, .int .i64 t202] 35 (0, 0)) (by (with_reducible repeat (first | refine blk_drewN ?_ _ | refine blk_drew ?_ | refine blk_alloc ?_ _)); exact BK203.out) hb); have n4_ := Aside0.mk (below_step (by repeat (first | (with_reducible first | exact HB.out | apply below_alloc | apply pw_below_drewN | apply below_drew1 | refine below_set ?_ GE180.out | refine below_set ?_ GE181.out | refine below_set ?_ GE203.out) | exact HB.out)) hb); clear BK180; clear BK181; clear BK203; clear HB; have HO230 := n0_; have BK180 := n1_; have BK181 := n2_; have BK203 := n3_; have HB := n4_; clear n0_ n1_ n2_ n3_ n4_; (try clear hb); (try clear hb2); (try clear hk); (try clear hi); (try clear ho0); obtain ⟨Ao105, co105, eo105⟩ := Kd.R_slice HO230.out; subst eo105) | ((with_reducible refine gate_callee (f := 19) rfl ?_); refine goesL_ (some 60) rfl rfl Tryd.func19 (by kernel_rfl) rfl #[.slice Ao105 t228.length co105] rfl (by (try simp only [List.map_toArray, List.map_cons, List.map_nil]); first | done | rfl | (simp only [List.length_drop, List.length_take]; rfl)) ?_; (with_reducible refine (vary_Parse.calls kj73 _ _ t228 false t232 _ ?side1 ?side2 A91.out).mono ?_); (case side1 => repeat (first | exact (Kd.R_reads' HO230.out).2.2 | (with_reducible refine Kd.C_alloc ?_ _) | (with_reducible refine Kd.C_drewN ?_ _) | (with_reducible refine Kd.C_drew ?_))); (case side2 => exact (Kd.R_reads' HO230.out).2.1); rintro e w106 ⟨v233, rfl, ho0, hb⟩; refine ⟨_, rfl, ?_⟩; have n0_ := Aside0.mk (Kd.R_elder' (by (with_reducible repeat (first | apply Kd.R_alloc | apply Kd.R_drewN | apply Kd.R_drew)); exact HO230.out) (Kd.R_base ho0) hb); have n1_ := Aside0.mk (Kd.R_lower (Kd.R_new' ho0 (Kd.R_lt (by (with_reducible repeat (first | apply Kd.R_alloc | apply Kd.R_drewN | apply Kd.R_drew)); exact HO230.out))) (below_size (by repeat (first | (with_reducible first | exact HB.out | apply below_alloc | apply pw_below_drewN | apply below_drew1 | refine below_set ?_ GE180.out | refine below_set ?_ GE181.out | refine below_set ?_ GE203.out) | exact HB.out)))); have n2_ := Aside0.mk (blk_below (g := gb180) (o := .cells #[.string a1_0, .string a1_1, .string a1_2, .slice A1_3 l1_3.length c1_3] 24 (0, 0)) (by (with_reducible repeat (first | refine blk_drewN ?_ _ | refine blk_drew ?_ | refine blk_alloc ?_ _)); exact BK180.out) hb); have n3_ := Aside0.mk (blk_below (g := gb181) (o := .cells #[.int .i64 a2_0, .slice A2_1 l2_1.length c2_1, .slice A2_2 l2_2.length c2_2] 27 (0, 0)) (by (with_reducible repeat (first | refine blk_drewN ?_ _ | refine blk_drew ?_ | refine blk_alloc ?_ _)); exact BK181.out) hb); have n4_ := Aside0.mk (blk_below (g := gb203) (o := .cells #[.bool t182, .bool t183, .bool t184, .bool t185, .bool t186, .bool t187, .bool t188, .bool t189, .bool t190, .bool t191, .bool t192, .bool t193, .int .i64 t194, .bool t195, .int .i64 t196, .bool t197, .int .i64 t198, .bool t199, .int .i64 t200, .bool t201, .int .i64 t202] 35 (0, 0)) (by (with_reducible repeat (first | refine blk_drewN ?_ _ | refine blk_drew ?_ | refine blk_alloc ?_ _)); exact BK203.out) hb); have n5_ := Aside0.mk (below_step (by repeat (first | (with_reducible first | exact HB.out | apply below_alloc | apply pw_below_drewN | apply below_drew1 | refine below_set ?_ GE180.out | refine below_set ?_ GE181.out | refine below_set ?_ GE203.out) | exact HB.out)) hb); clear HO230; clear BK180; clear BK181; clear BK203; clear HB; have HO230 := n0_; have HO234 := n1_; have BK180 := n2_; have BK181 := n3_; have BK203 := n4_; have HB := n5_; clear n0_ n1_ n2_ n3_ n4_ n5_; (try clear hb); (try clear hb2); (try clear hk); (try clear hi); (try clear ho0); have hcz107_0 : w106.cell? ⟨gb181, 0, none⟩ = some (.int .i64 a2_0) := (blk_cell BK181.out 0).trans rfl; have hcz107_1 : w106.cell? ⟨gb181, 1, none⟩ = some (.slice A2_1 l2_1.length c2_1) := (blk_cell BK181.out 1).trans rfl; have hcz107_2 : w106.cell? ⟨gb181, 2, none⟩ = some (.slice A2_2 l2_2.length c2_2) := (blk_cell BK181.out 2).trans rfl; have hfz107_0 := blk_frozen BK181.out 0; have hfz107_1 := blk_frozen BK181.out 1; have hfz107_2 := blk_frozen BK181.out 2) | ((with_reducible refine gate_callee (f := 20) rfl ?_); refine goesL_ (some 66) rfl rfl Tryd.func20 (by kernel_rfl) rfl #[.bool a0, .slice A2_1 l2_1.length c2_1] rfl (by (try simp only [List.map_toArray, List.map_cons, List.map_nil]); first | done | rfl | (simp only [List.length_drop, List.length_take]; rfl)) ?_; (with_reducible refine (age_Explicit.calls kj73 a0 _ _ l2_1 true _ ?side1 ?side2 A99.out).mono ?_); (case side1 => repeat (first | exact (Kd.C_below HR2_1.out HB.out) | (with_reducible refine Kd.C_alloc ?_ _) | (with_reducible refine Kd.C_drewN ?_ _) | (with_reducible refine Kd.C_drew ?_))); (case side2 => exact HC2_1.out); rintro e w108 ⟨rfl, hb⟩; refine ⟨_, rfl, ?_⟩; have n0_ := Aside0.mk (Kd.R_below (by (with_reducible repeat (first | apply Kd.R_alloc | apply Kd.R_drewN | apply Kd.R_drew)); exact HO230.out) hb); have n1_ := Aside0.mk (Kd.R_below (by (with_reducible repeat (first | apply Kd.R_alloc | apply Kd.R_drewN | apply Kd.R_drew)); exact HO234.out) hb); have n2_ := Aside0.mk (blk_below (g := gb180) (o := .cells #[.string a1_0, .string a1_1, .string a1_2, .slice A1_3 l1_3.length c1_3] 24 (0, 0)) (by (with_reducible repeat (first | refine blk_drewN ?_ _ | refine blk_drew ?_ | refine blk_alloc ?_ _)); exact BK180.out) hb); have n3_ := Aside0.mk (blk_below (g := gb181) (o := .cells #[.int .i64 a2_0, .slice A2_1 l2_1.length c2_1, .slice A2_2 l2_2.length c2_2] 27 (0, 0)) (by (with_reducible repeat (first | refine blk_drewN ?_ _ | refine blk_drew ?_ | refine blk_alloc ?_ _)); exact BK181.out) hb); have n4_ := Aside0.mk (blk_below (g := gb203) (o := .cells #[.bool t182, .bool t183, .bool t184, .bool t185, .bool t186, .bool t187, .bool t188, .bool t189, .bool t190, .bool t191, .bool t192, .bool t193, .int .i64 t194, .bool t195, .int .i64 t196, .bool t197, .int .i64 t198, .bool t199, .int .i64 t200, .bool t201, .int .i64 t202] 35 (0, 0)) (by (with_reducible repeat (first | refine blk_drewN ?_ _ | refine blk_drew ?_ | refine blk_alloc ?_ _)); exact BK203.out) hb); have n5_ := Aside0.mk (below_step (by repeat (first | (with_reducible first | exact HB.out | apply below_alloc | apply pw_below_drewN | apply below_drew1 | refine below_set ?_ GE180.out | refine below_set ?_ GE181.out | refine below_set ?_ GE203.out) | exact HB.out)) hb); clear HO230; clear HO234; clear BK180; clear BK181; clear BK203; clear HB; have HO230 := n0_; have HO234 := n1_; have BK180 := n2_; have BK181 := n3_; have BK203 := n4_; have HB := n5_; clear n0_ n1_ n2_ n3_ n4_ n5_; (try clear hb); (try clear hb2); (try clear hk); (try clear hi)))
              go_ret
              exact ⟨by first | rfl | (simp [errW_none, errW_some] <;> rfl) | (simp [*, errW_none, errW_some] <;> rfl), by repeat (first | (with_reducible first | exact HB.out | apply below_alloc | apply pw_below_drewN | apply below_drew1 | refine below_set ?_ GE180.out | refine below_set ?_ GE181.out | refine below_set ?_ GE203.out) | exact HB.out)⟩
            · replace c100 := Bool.eq_false_iff.mpr c100
              subst c100
              have H1 : (if t185 = true then (some 0) else ((age_Usual.f a2_0).bind fun t236 => (if t236 = true then (some 0) else (some 7)))) = some r := by rw [if_neg (show ¬ (false = true) by decide)] at H; exact H
              clear H
              have H := H1
              clear H1
              by_cases c109 : t185 = true
              · subst c109
                have H1 : (some 0) = some r := by rw [if_pos rfl] at H; exact H
                clear H
                have H := H1
                clear H1
                obtain rfl := Option.some.inj H
                have hnb110 := NB181_180.out
                have hnc110 := NB180_181.out
                have hnb111 := NB181_203.out
                have hnc111 := NB203_181.out
                have hcz112_0 : wc.cell? ⟨gb181, 0, none⟩ = some (.int .i64 a2_0) := (blk_cell BK181.out 0).trans rfl
                have hcz112_1 : wc.cell? ⟨gb181, 1, none⟩ = some (.slice A2_1 l2_1.length c2_1) := (blk_cell BK181.out 1).trans rfl
                have hcz112_2 : wc.cell? ⟨gb181, 2, none⟩ = some (.slice A2_2 l2_2.length c2_2) := (blk_cell BK181.out 2).trans rfl
                have hfz112_0 := blk_frozen BK181.out 0
                have hfz112_1 := blk_frozen BK181.out 1
                have hfz112_2 := blk_frozen BK181.out 2
                go_wp2_with (first | ((with_reducible refine gate_store (t := 35) rfl ?_); refine wpList_store_row rfl 35 _ _ rfl _ _ rfl rfl 35 _ (by first | exact blk_new _ _ | exact blk_alloc (blk_new _ _) _) (by kernel_rfl) rfl (by simp [Value.oneCell']) ?_; (first | rw [Own.alloc_setRow] | rw [Own.alloc2_setRow0] | rw [Own.alloc2_setRow1])) | ((with_reducible refine gate_callee (f := 11) rfl ?_); refine goesL_ (some 59) rfl rfl Tryd.func11 (by kernel_rfl) rfl #[.slice A2_1 l2_1.length c2_1, .string (⟨#[86, 97, 114, 121]⟩ : ByteArray)] rfl (by (try simp only [List.map_toArray, List.map_cons, List.map_nil]); first | done | rfl | (simp only [List.length_drop, List.length_take]; rfl)) ?_; (with_reducible refine (head_All.calls kj73 _ _ l2_1 (⟨#[86, 97, 114, 121]⟩ : ByteArray) t228 _ ?side1 ?side2 A90.out).mono ?_); (case side1 => repeat (first | exact (Kd.C_below HR2_1.out HB.out) | (with_reducible refine Kd.C_alloc ?_ _) | (with_reducible refine Kd.C_drewN ?_ _) | (with_reducible refine Kd.C_drew ?_))); (case side2 => exact HC2_1.out); rintro e w113 ⟨v229, rfl, ho0, hb⟩; refine ⟨_, rfl, ?_⟩; have n0_ := Aside0.mk (Kd.R_lower ho0 (below_size (by repeat (first | (with_reducible first | exact HB.out | apply below_alloc | apply pw_below_drewN | apply below_drew1 | refine below_set ?_ GE180.out | refine below_set ?_ GE181.out | refine below_set ?_ GE203.out) | exact HB.out)))); have n1_ := Aside0.mk (blk_below (g := gb180) (o := .cells #[.string a1_0, .string a1_1, .string a1_2, .slice A1_3 l1_3.length c1_3] 24 (0, 0)) (by (with_reducible repeat (first | refine blk_drewN ?_ _ | refine blk_drew ?_ | refine blk_alloc ?_ _)); exact BK180.out) hb); have n2_ := Aside0.mk (blk_below (g := gb181) (o := .cells #[.int .i64 a2_0, .slice A2_1 l2_1.length c2_1, .slice A2_2 l2_2.length c2_2] 27 (0, 0)) (by (with_reducible repeat (first | refine blk_drewN ?_ _ | refine blk_drew ?_ | refine blk_alloc ?_ _)); exact BK181.out) hb); have n3_ := Aside0.mk (blk_below (g := gb203) (o := .cells #[.bool t182, .bool t183, .bool t184, .bool true, .bool t186, .bool t187, .bool t188, .bool t189, .bool t190, .bool t191, .bool t192, .bool t193, .int .i64 t194, .bool t195, .int .i64 t196, .bool t197, .int .i64 t198, .bool t199, .int .i64 t200, .bool t201, .int .i64 t202] 35 (0, 0)) (by (with_reducible repeat (first | refine blk_drewN ?_ _ | refine blk_drew ?_ | refine blk_alloc ?_ _)); exact BK203.out) hb); have n4_ := Aside0.mk (below_step (by repeat (first | (with_reducible first | exact HB.out | apply below_alloc | apply pw_below_drewN | apply below_drew1 | refine below_set ?_ GE180.out | refine below_set ?_ GE181.out | refine below_set ?_ GE203.out) | exact HB.out)) hb); clear BK180; clear BK181; clear BK203; clear HB; have HO230 := n0_; have BK180 := n1_; have BK181 := n2_; have BK203 := n3_; have HB := n4_; clear n0_ n1_ n2_ n3_ n4_; (try clear hb); (try clear hb2); (try clear hk); (try clear hi); (try clear ho0); obtain ⟨Ao114, co114, eo114⟩ := Kd.R_slice HO230.out; subst eo114) | ((with_reducible refine gate_callee (f := 19) rfl ?_); refine goesL_ (some 60) rfl rfl Tryd.func19 (by kernel_rfl) rfl #[.slice Ao114 t228.length co114] rfl (by (try simp only [List.map_toArray, List.map_cons, List.map_nil]); first | done | rfl | (simp only [List.length_drop, List.length_take]; rfl)) ?_; (with_reducible refine (vary_Parse.calls kj73 _ _ t228 false t232 _ ?side1 ?side2 A91.out).mono ?_); (case side1 => repeat (first | exact (Kd.R_reads' HO230.out).2.2 | (with_reducible refine Kd.C_alloc ?_ _) | (with_reducible refine Kd.C_drewN ?_ _) | (with_reducible refine Kd.C_drew ?_))); (case side2 => exact (Kd.R_reads' HO230.out).2.1); rintro e w115 ⟨v233, rfl, ho0, hb⟩; refine ⟨_, rfl, ?_⟩; have n0_ := Aside0.mk (Kd.R_elder' (by (with_reducible repeat (first | apply Kd.R_alloc | apply Kd.R_drewN | apply Kd.R_drew)); exact HO230.out) (Kd.R_base ho0) hb); have n1_ := Aside0.mk (Kd.R_lower (Kd.R_new' ho0 (Kd.R_lt (by (with_reducible repeat (first | apply Kd.R_alloc | apply Kd.R_drewN | apply Kd.R_drew)); exact HO230.out))) (below_size (by repeat (first | (with_reducible first | exact HB.out | apply below_alloc | apply pw_below_drewN | apply below_drew1 | refine below_set ?_ GE180.out | refine below_set ?_ GE181.out | refine below_set ?_ GE203.out) | exact HB.out)))); have n2_ := Aside0.mk (blk_below (g := gb180) (o := .cells #[.string a1_0, .string a1_1, .string a1_2, .slice A1_3 l1_3.length c1_3] 24 (0, 0)) (by (with_reducible repeat (first | refine blk_drewN ?_ _ | refine blk_drew ?_ | refine blk_alloc ?_ _)); exact BK180.out) hb); have n3_ := Aside0.mk (blk_below (g := gb181) (o := .cells #[.int .i64 a2_0, .slice A2_1 l2_1.length c2_1, .slice A2_2 l2_2.length c2_2] 27 (0, 0)) (by (with_reducible repeat (first | refine blk_drewN ?_ _ | refine blk_drew ?_ | refine blk_alloc ?_ _)); exact BK181.out) hb); have n4_ := Aside0.mk (blk_below (g := gb203) (o := .cells #[.bool t182, .bool t183, .bool t184, .bool true, .bool t186, .bool t187, .bool t188, .bool t189, .bool t190, .bool t191, .bool t192, .bool t193, .int .i64 t194, .bool t195, .int .i64 t196, .bool t197, .int .i64 t198, .bool t199, .int .i64 t200, .bool t201, .int .i64 t202] 35 (0, 0)) (by (with_reducible repeat (first | refine blk_drewN ?_ _ | refine blk_drew ?_ | refine blk_alloc ?_ _)); exact BK203.out) hb); have n5_ := Aside0.mk (below_step (by repeat (first | (with_reducible first | exact HB.out | apply below_alloc | apply pw_below_drewN | apply below_drew1 | refine below_set ?_ GE180.out | refine below_set ?_ GE181.out | refine below_set ?_ GE203.out) | exact HB.out)) hb); clear HO230; clear BK180; clear BK181; clear BK203; clear HB; have HO230 := n0_; have HO234 := n1_; have BK180 := n2_; have BK181 := n3_; have BK203 := n4_; have HB := n5_; clear n0_ n1_ n2_ n3_ n4_ n5_; (try clear hb); (try clear hb2); (try clear hk); (try clear hi); (try clear ho0); have hcz116_0 : w115.cell? ⟨gb181, 0, none⟩ = some (.int .i64 a2_0) := (blk_cell BK181.out 0).trans rfl; have hcz116_1 : w115.cell? ⟨gb181, 1, none⟩ = some (.slice A2_1 l2_1.length c2_1) := (blk_cell BK181.out 1).trans rfl; have hcz116_2 : w115.cell? ⟨gb181, 2, none⟩ = some (.slice A2_2 l2_2.length c2_2) := (blk_cell BK181.out 2).trans rfl; have hfz116_0 := blk_frozen BK181.out 0; have hfz116_1 := blk_frozen BK181.out 1; have hfz116_2 := blk_frozen BK181.out 2) | ((with_reducible refine gate_callee (f := 20) rfl ?_); refine goesL_ (some 66) rfl rfl Tryd.func20 (by kernel_rfl) rfl #[.bool a0, .slice A2_1 l2_1.length c2_1] rfl (by (try simp only [List.map_toArray, List.map_cons, List.map_nil]); first | done | rfl | (simp only [List.length_drop, List.length_take]; rfl)) ?_; (with_reducible refine (age_Explicit.calls kj73 a0 _ _ l2_1 false _ ?side1 ?side2 A99.out).mono ?_); (case side1 => repeat (first | exact (Kd.C_below HR2_1.out HB.out) | (with_reducible refine Kd.C_alloc ?_ _) | (with_reducible refine Kd.C_drewN ?_ _) | (with_reducible refine Kd.C_drew ?_))); (case side2 => exact HC2_1.out); rintro e w117 ⟨rfl, hb⟩; refine ⟨_, rfl, ?_⟩; have n0_ := Aside0.mk (Kd.R_below (by (with_reducible repeat (first | apply Kd.R_alloc | apply Kd.R_drewN | apply Kd.R_drew)); exact HO230.out) hb); have n1_ := Aside0.mk (Kd.R_below (by (with_reducible repeat (first | apply Kd.R_alloc | apply Kd.R_drewN | apply Kd.R_drew)); exact HO234.out) hb); have n2_ := Aside0.mk (blk_below (g := gb180) (o := .cells #[.string a1_0, .string a1_1, .string a1_2, .slice A1_3 l1_3.length c1_3] 24 (0, 0)) (by (with_reducible repeat (first | refine blk_drewN ?_ _ | refine blk_drew ?_ | refine blk_alloc ?_ _)); exact BK180.out) hb); have n3_ := Aside0.mk (blk_below (g := gb181) (o := .cells #[.int .i64 a2_0, .slice A2_1 l2_1.length c2_1, .slice A2_2 l2_2.length c2_2] 27 (0, 0)) (by (with_reducible repeat (first | refine blk_drewN ?_ _ | refine blk_drew ?_ | refine blk_alloc ?_ _)); exact BK181.out) hb); have n4_ := Aside0.mk (blk_below (g := gb203) (o := .cells #[.bool t182, .bool t183, .bool t184, .bool true, .bool t186, .bool t187, .bool t188, .bool t189, .bool t190, .bool t191, .bool t192, .bool t193, .int .i64 t194, .bool t195, .int .i64 t196, .bool t197, .int .i64 t198, .bool t199, .int .i64 t200, .bool t201, .int .i64 t202] 35 (0, 0)) (by (with_reducible repeat (first | refine blk_drewN ?_ _ | refine blk_drew ?_ | refine blk_alloc ?_ _)); exact BK203.out) hb); have n5_ := Aside0.mk (below_step (by repeat (first | (with_reducible first | exact HB.out | apply below_alloc | apply pw_below_drewN | apply below_drew1 | refine below_set ?_ GE180.out | refine below_set ?_ GE181.out | refine below_set ?_ GE203.out) | exact HB.out)) hb); clear HO230; clear HO234; clear BK180; clear BK181; clear BK203; clear HB; have HO230 := n0_; have HO234 := n1_; have BK180 := n2_; have BK181 := n3_; have BK203 := n4_; have HB := n5_; clear n0_ n1_ n2_ n3_ n4_ n5_; (try clear hb); (try clear hb2); (try clear hk); (try clear hi); have hnb118 := NB203_180.out; have hnc118 := NB180_203.out; have hcz119_0 : w117.cell? ⟨gb203, 0, none⟩ = some (.bool t182) := (blk_cell BK203.out 0).trans rfl; have hcz119_1 : w117.cell? ⟨gb203, 1, none⟩ = some (.bool t183) := (blk_cell BK203.out 1).trans rfl; have hcz119_2 : w117.cell? ⟨gb203, 2, none⟩ = some (.bool t184) := (blk_cell BK203.out 2).trans rfl; have hcz119_3 : w117.cell? ⟨gb203, 3, none⟩ = some (.bool true) := (blk_cell BK203.out 3).trans rfl; have hcz119_4 : w117.cell? ⟨gb203, 4, none⟩ = some (.bool t186) := (blk_cell BK203.out 4).trans rfl; have hcz119_5 : w117.cell? ⟨gb203, 5, none⟩ = some (.bool t187) := (blk_cell BK203.out 5).trans rfl; have hcz119_6 : w117.cell? ⟨gb203, 6, none⟩ = some (.bool t188) := (blk_cell BK203.out 6).trans rfl; have hcz119_7 : w117.cell? ⟨gb203, 7, none⟩ = some (.bool t189) := (blk_cell BK203.out 7).trans rfl; have hcz119_8 : w117.cell? ⟨gb203, 8, none⟩ = some (.bool t190) := (blk_cell BK203.out 8).trans rfl; have hcz119_9 : w117.cell? ⟨gb203, 9, none⟩ = some (.bool t191) := (blk_cell BK203.out 9).trans rfl; have hcz119_10 : w117.cell? ⟨gb203, 10, none⟩ = some (.bool t192) := (blk_cell BK203.out 10).trans rfl; have hcz119_11 : w117.cell? ⟨gb203, 11, none⟩ = some (.bool t193) := (blk_cell BK203.out 11).trans rfl; have hcz119_12 : w117.cell? ⟨gb203, 12, none⟩ = some (.int .i64 t194) := (blk_cell BK203.out 12).trans rfl; have hcz119_13 : w117.cell? ⟨gb203, 13, none⟩ = some (.bool t195) := (blk_cell BK203.out 13).trans rfl; have hcz119_14 : w117.cell? ⟨gb203, 14, none⟩ = some (.int .i64 t196) := (blk_cell BK203.out 14).trans rfl; have hcz119_15 : w117.cell? ⟨gb203, 15, none⟩ = some (.bool t197) := (blk_cell BK203.out 15).trans rfl; have hcz119_16 : w117.cell? ⟨gb203, 16, none⟩ = some (.int .i64 t198) := (blk_cell BK203.out 16).trans rfl; have hcz119_17 : w117.cell? ⟨gb203, 17, none⟩ = some (.bool t199) := (blk_cell BK203.out 17).trans rfl; have hcz119_18 : w117.cell? ⟨gb203, 18, none⟩ = some (.int .i64 t200) := (blk_cell BK203.out 18).trans rfl; have hcz119_19 : w117.cell? ⟨gb203, 19, none⟩ = some (.bool t201) := (blk_cell BK203.out 19).trans rfl; have hcz119_20 : w117.cell? ⟨gb203, 20, none⟩ = some (.int .i64 t202) := (blk_cell BK203.out 20).trans rfl; have hfz119_0 := blk_frozen BK203.out 0; have hfz119_1 := blk_frozen BK203.out 1; have hfz119_2 := blk_frozen BK203.out 2; have hfz119_3 := blk_frozen BK203.out 3; have hfz119_4 := blk_frozen BK203.out 4; have hfz119_5 := blk_frozen BK203.out 5; have hfz119_6 := blk_frozen BK203.out 6; have hfz119_7 := blk_frozen BK203.out 7; have hfz119_8 := blk_frozen BK203.out 8; have hfz119_9 := blk_frozen BK203.out 9; have hfz119_10 := blk_frozen BK203.out 10; have hfz119_11 := blk_frozen BK203.out 11; have hfz119_12 := blk_frozen BK203.out 12; have hfz119_13 := blk_frozen BK203.out 13; have hfz119_14 := blk_frozen BK203.out 14; have hfz119_15 := blk_frozen BK203.out 15; have hfz119_16 := blk_frozen BK203.out 16; have hfz119_17 := blk_frozen BK203.out 17; have hfz119_18 := blk_frozen BK203.out 18; have hfz119_19 := blk_frozen BK203.out 19; have hfz119_20 := blk_frozen BK203.out 20))
                go_ret
                exact ⟨by first | rfl | (simp [errW_none, errW_some] <;> rfl) | (simp [*, errW_none, errW_some] <;> rfl), by repeat (first | (with_reducible first | exact HB.out | apply below_alloc | apply pw_below_drewN | apply below_drew1 | refine below_set ?_ GE180.out | refine below_set ?_ GE181.out | refine below_set ?_ GE203.out) | exact HB.out)⟩
              · replace c109 := Bool.eq_false_iff.mpr c109
                subst c109
                have H1 : ((age_Usual.f a2_0).bind fun t236 => (if t236 = true then (some 0) else (some 7))) = some r := by rw [if_neg (show ¬ (false = true) by decide)] at H; exact H
                clear H
                have H := H1
                clear H1
                replace H := Option.bind_eq_some_iff.mp H
                obtain ⟨t236, A1200, H⟩ := H
                replace H : (if t236 = true then (some 0) else (some 7)) = some r := H
                have A120 := Aside0.mk A1200
                clear A1200
                by_cases c121 : t236 = true
                · subst c121
                  have H1 : (some 0) = some r := by rw [if_pos rfl] at H; exact H
                  clear H
                  have H := H1
                  clear H1
                  obtain rfl := Option.some.inj H
                  have hnb122 := NB181_180.out
                  have hnc122 := NB180_181.out
                  have hnb123 := NB181_203.out
                  have hnc123 := NB203_181.out
                  have hcz124_0 : wc.cell? ⟨gb181, 0, none⟩ = some (.int .i64 a2_0) := (blk_cell BK181.out 0).trans rfl
                  have hcz124_1 : wc.cell? ⟨gb181, 1, none⟩ = some (.slice A2_1 l2_1.length c2_1) := (blk_cell BK181.out 1).trans rfl
                  have hcz124_2 : wc.cell? ⟨gb181, 2, none⟩ = some (.slice A2_2 l2_2.length c2_2) := (blk_cell BK181.out 2).trans rfl
                  have hfz124_0 := blk_frozen BK181.out 0
                  have hfz124_1 := blk_frozen BK181.out 1
                  have hfz124_2 := blk_frozen BK181.out 2
                  go_wp2_with (first | ((with_reducible refine gate_store (t := 35) rfl ?_); refine wpList_store_row rfl 35 _ _ rfl _ _ rfl rfl 35 _ (by first | exact blk_new _ _ | exact blk_alloc (blk_new _ _) _) (by kernel_rfl) rfl (by simp [Value.oneCell']) ?_; (first | rw [Own.alloc_setRow] | rw [Own.alloc2_setRow0] | rw [Own.alloc2_setRow1])) | ((with_reducible refine gate_callee (f := 11) rfl ?_); refine goesL_ (some 59) rfl rfl Tryd.func11 (by kernel_rfl) rfl #[.slice A2_1 l2_1.length c2_1, .string (⟨#[86, 97, 114, 121]⟩ : ByteArray)] rfl (by (try simp only [List.map_toArray, List.map_cons, List.map_nil]); first | done | rfl | (simp only [List.length_drop, List.length_take]; rfl)) ?_; (with_reducible refine (head_All.calls kj73 _ _ l2_1 (⟨#[86, 97, 114, 121]⟩ : ByteArray) t228 _ ?side1 ?side2 A90.out).mono ?_); (case side1 => repeat (first | exact (Kd.C_below HR2_1.out HB.out) | (with_reducible refine Kd.C_alloc ?_ _) | (with_reducible refine Kd.C_drewN ?_ _) | (with_reducible refine Kd.C_drew ?_))); (case side2 => exact HC2_1.out); rintro e w125 ⟨v229, rfl, ho0, hb⟩; refine ⟨_, rfl, ?_⟩; have n0_ := Aside0.mk (Kd.R_lower ho0 (below_size (by repeat (first | (with_reducible first | exact HB.out | apply below_alloc | apply pw_below_drewN | apply below_drew1 | refine below_set ?_ GE180.out | refine below_set ?_ GE181.out | refine below_set ?_ GE203.out) | exact HB.out)))); have n1_ := Aside0.mk (blk_below (g := gb180) (o := .cells #[.string a1_0, .string a1_1, .string a1_2, .slice A1_3 l1_3.length c1_3] 24 (0, 0)) (by (with_reducible repeat (first | refine blk_drewN ?_ _ | refine blk_drew ?_ | refine blk_alloc ?_ _)); exact BK180.out) hb); have n2_ := Aside0.mk (blk_below (g := gb181) (o := .cells #[.int .i64 a2_0, .slice A2_1 l2_1.length c2_1, .slice A2_2 l2_2.length c2_2] 27 (0, 0)) (by (with_reducible repeat (first | refine blk_drewN ?_ _ | refine blk_drew ?_ | refine blk_alloc ?_ _)); exact BK181.out) hb); have n3_ := Aside0.mk (blk_below (g := gb203) (o := .cells #[.bool t182, .bool t183, .bool t184, .bool false, .bool t186, .bool t187, .bool t188, .bool t189, .bool t190, .bool t191, .bool t192, .bool t193, .int .i64 t194, .bool t195, .int .i64 t196, .bool t197, .int .i64 t198, .bool t199, .int .i64 t200, .bool t201, .int .i64 t202] 35 (0, 0)) (by (with_reducible repeat (first | refine blk_drewN ?_ _ | refine blk_drew ?_ | refine blk_alloc ?_ _)); exact BK203.out) hb); have n4_ := Aside0.mk (below_step (by repeat (first | (with_reducible first | exact HB.out | apply below_alloc | apply pw_below_drewN | apply below_drew1 | refine below_set ?_ GE180.out | refine below_set ?_ GE181.out | refine below_set ?_ GE203.out) | exact HB.out)) hb); clear BK180; clear BK181; clear BK203; clear HB; have HO230 := n0_; have BK180 := n1_; have BK181 := n2_; have BK203 := n3_; have HB := n4_; clear n0_ n1_ n2_ n3_ n4_; (try clear hb); (try clear hb2); (try clear hk); (try clear hi); (try clear ho0); obtain ⟨Ao126, co126, eo126⟩ := Kd.R_slice HO230.out; subst eo126) | ((with_reducible refine gate_callee (f := 19) rfl ?_); refine goesL_ (some 60) rfl rfl Tryd.func19 (by kernel_rfl) rfl #[.slice Ao126 t228.length co126] rfl (by (try simp only [List.map_toArray, List.map_cons, List.map_nil]); first | done | rfl | (simp only [List.length_drop, List.length_take]; rfl)) ?_; (with_reducible refine (vary_Parse.calls kj73 _ _ t228 false t232 _ ?side1 ?side2 A91.out).mono ?_); (case side1 => repeat (first | exact (Kd.R_reads' HO230.out).2.2 | (with_reducible refine Kd.C_alloc ?_ _) | (with_reducible refine Kd.C_drewN ?_ _) | (with_reducible refine Kd.C_drew ?_))); (case side2 => exact (Kd.R_reads' HO230.out).2.1); rintro e w127 ⟨v233, rfl, ho0, hb⟩; refine ⟨_, rfl, ?_⟩; have n0_ := Aside0.mk (Kd.R_elder' (by (with_reducible repeat (first | apply Kd.R_alloc | apply Kd.R_drewN | apply Kd.R_drew)); exact HO230.out) (Kd.R_base ho0) hb); have n1_ := Aside0.mk (Kd.R_lower (Kd.R_new' ho0 (Kd.R_lt (by (with_reducible repeat (first | apply Kd.R_alloc | apply Kd.R_drewN | apply Kd.R_drew)); exact HO230.out))) (below_size (by repeat (first | (with_reducible first | exact HB.out | apply below_alloc | apply pw_below_drewN | apply below_drew1 | refine below_set ?_ GE180.out | refine below_set ?_ GE181.out | refine below_set ?_ GE203.out) | exact HB.out)))); have n2_ := Aside0.mk (blk_below (g := gb180) (o := .cells #[.string a1_0, .string a1_1, .string a1_2, .slice A1_3 l1_3.length c1_3] 24 (0, 0)) (by (with_reducible repeat (first | refine blk_drewN ?_ _ | refine blk_drew ?_ | refine blk_alloc ?_ _)); exact BK180.out) hb); have n3_ := Aside0.mk (blk_below (g := gb181) (o := .cells #[.int .i64 a2_0, .slice A2_1 l2_1.length c2_1, .slice A2_2 l2_2.length c2_2] 27 (0, 0)) (by (with_reducible repeat (first | refine blk_drewN ?_ _ | refine blk_drew ?_ | refine blk_alloc ?_ _)); exact BK181.out) hb); have n4_ := Aside0.mk (blk_below (g := gb203) (o := .cells #[.bool t182, .bool t183, .bool t184, .bool false, .bool t186, .bool t187, .bool t188, .bool t189, .bool t190, .bool t191, .bool t192, .bool t193, .int .i64 t194, .bool t195, .int .i64 t196, .bool t197, .int .i64 t198, .bool t199, .int .i64 t200, .bool t201, .int .i64 t202] 35 (0, 0)) (by (with_reducible repeat (first | refine blk_drewN ?_ _ | refine blk_drew ?_ | refine blk_alloc ?_ _)); exact BK203.out) hb); have n5_ := Aside0.mk (below_step (by repeat (first | (with_reducible first | exact HB.out | apply below_alloc | apply pw_below_drewN | apply below_drew1 | refine below_set ?_ GE180.out | refine below_set ?_ GE181.out | refine below_set ?_ GE203.out) | exact HB.out)) hb); clear HO230; clear BK180; clear BK181; clear BK203; clear HB; have HO230 := n0_; have HO234 := n1_; have BK180 := n2_; have BK181 := n3_; have BK203 := n4_; have HB := n5_; clear n0_ n1_ n2_ n3_ n4_ n5_; (try clear hb); (try clear hb2); (try clear hk); (try clear hi); (try clear ho0); have hcz128_0 : w127.cell? ⟨gb181, 0, none⟩ = some (.int .i64 a2_0) := (blk_cell BK181.out 0).trans rfl; have hcz128_1 : w127.cell? ⟨gb181, 1, none⟩ = some (.slice A2_1 l2_1.length c2_1) := (blk_cell BK181.out 1).trans rfl; have hcz128_2 : w127.cell? ⟨gb181, 2, none⟩ = some (.slice A2_2 l2_2.length c2_2) := (blk_cell BK181.out 2).trans rfl; have hfz128_0 := blk_frozen BK181.out 0; have hfz128_1 := blk_frozen BK181.out 1; have hfz128_2 := blk_frozen BK181.out 2) | ((with_reducible refine gate_callee (f := 20) rfl ?_); refine goesL_ (some 66) rfl rfl Tryd.func20 (by kernel_rfl) rfl #[.bool a0, .slice A2_1 l2_1.length c2_1] rfl (by (try simp only [List.map_toArray, List.map_cons, List.map_nil]); first | done | rfl | (simp only [List.length_drop, List.length_take]; rfl)) ?_; (with_reducible refine (age_Explicit.calls kj73 a0 _ _ l2_1 false _ ?side1 ?side2 A99.out).mono ?_); (case side1 => repeat (first | exact (Kd.C_below HR2_1.out HB.out) | (with_reducible refine Kd.C_alloc ?_ _) | (with_reducible refine Kd.C_drewN ?_ _) | (with_reducible refine Kd.C_drew ?_))); (case side2 => exact HC2_1.out); rintro e w129 ⟨rfl, hb⟩; refine ⟨_, rfl, ?_⟩; have n0_ := Aside0.mk (Kd.R_below (by (with_reducible repeat (first | apply Kd.R_alloc | apply Kd.R_drewN | apply Kd.R_drew)); exact HO230.out) hb); have n1_ := Aside0.mk (Kd.R_below (by (with_reducible repeat (first | apply Kd.R_alloc | apply Kd.R_drewN | apply Kd.R_drew)); exact HO234.out) hb); have n2_ := Aside0.mk (blk_below (g := gb180) (o := .cells #[.string a1_0, .string a1_1, .string a1_2, .slice A1_3 l1_3.length c1_3] 24 (0, 0)) (by (with_reducible repeat (first | refine blk_drewN ?_ _ | refine blk_drew ?_ | refine blk_alloc ?_ _)); exact BK180.out) hb); have n3_ := Aside0.mk (blk_below (g := gb181) (o := .cells #[.int .i64 a2_0, .slice A2_1 l2_1.length c2_1, .slice A2_2 l2_2.length c2_2] 27 (0, 0)) (by (with_reducible repeat (first | refine blk_drewN ?_ _ | refine blk_drew ?_ | refine blk_alloc ?_ _)); exact BK181.out) hb); have n4_ := Aside0.mk (blk_below (g := gb203) (o := .cells #[.bool t182, .bool t183, .bool t184, .bool false, .bool t186, .bool t187, .bool t188, .bool t189, .bool t190, .bool t191, .bool t192, .bool t193, .int .i64 t194, .bool t195, .int .i64 t196, .bool t197, .int .i64 t198, .bool t199, .int .i64 t200, .bool t201, .int .i64 t202] 35 (0, 0)) (by (with_reducible repeat (first | refine blk_drewN ?_ _ | refine blk_drew ?_ | refine blk_alloc ?_ _)); exact BK203.out) hb); have n5_ := Aside0.mk (below_step (by repeat (first | (with_reducible first | exact HB.out | apply below_alloc | apply pw_below_drewN | apply below_drew1 | refine below_set ?_ GE180.out | refine below_set ?_ GE181.out | refine below_set ?_ GE203.out) | exact HB.out)) hb); clear HO230; clear HO234; clear BK180; clear BK181; clear BK203; clear HB; have HO230 := n0_; have HO234 := n1_; have BK180 := n2_; have BK181 := n3_; have BK203 := n4_; have HB := n5_; clear n0_ n1_ n2_ n3_ n4_ n5_; (try clear hb); (try clear hb2); (try clear hk); (try clear hi); have hnb130 := NB203_180.out; have hnc130 := NB180_203.out; have hcz131_0 : w129.cell? ⟨gb203, 0, none⟩ = some (.bool t182) := (blk_cell BK203.out 0).trans rfl; have hcz131_1 : w129.cell? ⟨gb203, 1, none⟩ = some (.bool t183) := (blk_cell BK203.out 1).trans rfl; have hcz131_2 : w129.cell? ⟨gb203, 2, none⟩ = some (.bool t184) := (blk_cell BK203.out 2).trans rfl; have hcz131_3 : w129.cell? ⟨gb203, 3, none⟩ = some (.bool false) := (blk_cell BK203.out 3).trans rfl; have hcz131_4 : w129.cell? ⟨gb203, 4, none⟩ = some (.bool t186) := (blk_cell BK203.out 4).trans rfl; have hcz131_5 : w129.cell? ⟨gb203, 5, none⟩ = some (.bool t187) := (blk_cell BK203.out 5).trans rfl; have hcz131_6 : w129.cell? ⟨gb203, 6, none⟩ = some (.bool t188) := (blk_cell BK203.out 6).trans rfl; have hcz131_7 : w129.cell? ⟨gb203, 7, none⟩ = some (.bool t189) := (blk_cell BK203.out 7).trans rfl; have hcz131_8 : w129.cell? ⟨gb203, 8, none⟩ = some (.bool t190) := (blk_cell BK203.out 8).trans rfl; have hcz131_9 : w129.cell? ⟨gb203, 9, none⟩ = some (.bool t191) := (blk_cell BK203.out 9).trans rfl; have hcz131_10 : w129.cell? ⟨gb203, 10, none⟩ = some (.bool t192) := (blk_cell BK203.out 10).trans rfl; have hcz131_11 : w129.cell? ⟨gb203, 11, none⟩ = some (.bool t193) := (blk_cell BK203.out 11).trans rfl; have hcz131_12 : w129.cell? ⟨gb203, 12, none⟩ = some (.int .i64 t194) := (blk_cell BK203.out 12).trans rfl; have hcz131_13 : w129.cell? ⟨gb203, 13, none⟩ = some (.bool t195) := (blk_cell BK203.out 13).trans rfl; have hcz131_14 : w129.cell? ⟨gb203, 14, none⟩ = some (.int .i64 t196) := (blk_cell BK203.out 14).trans rfl; have hcz131_15 : w129.cell? ⟨gb203, 15, none⟩ = some (.bool t197) := (blk_cell BK203.out 15).trans rfl; have hcz131_16 : w129.cell? ⟨gb203, 16, none⟩ = some (.int .i64 t198) := (blk_cell BK203.out 16).trans rfl; have hcz131_17 : w129.cell? ⟨gb203, 17, none⟩ = some (.bool t199) := (blk_cell BK203.out 17).trans rfl; have hcz131_18 : w129.cell? ⟨gb203, 18, none⟩ = some (.int .i64 t200) := (blk_cell BK203.out 18).trans rfl; have hcz131_19 : w129.cell? ⟨gb203, 19, none⟩ = some (.bool t201) := (blk_cell BK203.out 19).trans rfl; have hcz131_20 : w129.cell? ⟨gb203, 20, none⟩ = some (.int .i64 t202) := (blk_cell BK203.out 20).trans rfl; have hfz131_0 := blk_frozen BK203.out 0; have hfz131_1 := blk_frozen BK203.out 1; have hfz131_2 := blk_frozen BK203.out 2; have hfz131_3 := blk_frozen BK203.out 3; have hfz131_4 := blk_frozen BK203.out 4; have hfz131_5 := blk_frozen BK203.out 5; have hfz131_6 := blk_frozen BK203.out 6; have hfz131_7 := blk_frozen BK203.out 7; have hfz131_8 := blk_frozen BK203.out 8; have hfz131_9 := blk_frozen BK203.out 9; have hfz131_10 := blk_frozen BK203.out 10; have hfz131_11 := blk_frozen BK203.out 11; have hfz131_12 := blk_frozen BK203.out 12; have hfz131_13 := blk_frozen BK203.out 13; have hfz131_14 := blk_frozen BK203.out 14; have hfz131_15 := blk_frozen BK203.out 15; have hfz131_16 := blk_frozen BK203.out 16; have hfz131_17 := blk_frozen BK203.out 17; have hfz131_18 := blk_frozen BK203.out 18; have hfz131_19 := blk_frozen BK203.out 19; have hfz131_20 := blk_frozen BK203.out 20; have hcz132_0 : w129.cell? ⟨gb181, 0, none⟩ = some (.int .i64 a2_0) := (blk_cell BK181.out 0).trans rfl; have hcz132_1 : w129.cell? ⟨gb181, 1, none⟩ = some (.slice A2_1 l2_1.length c2_1) := (blk_cell BK181.out 1).trans rfl; have hcz132_2 : w129.cell? ⟨gb181, 2, none⟩ = some (.slice A2_2 l2_2.length c2_2) := (blk_cell BK181.out 2).trans rfl; have hfz132_0 := blk_frozen BK181.out 0; have hfz132_1 := blk_frozen BK181.out 1; have hfz132_2 := blk_frozen BK181.out 2) | (go_at_call 12; (with_reducible refine (age_Usual.calls a2_0 true _ A120.out).mono ?_); rintro e w' ⟨rfl, ⟨nd, rfl⟩⟩))
                  go_ret
                  exact ⟨by first | rfl | (simp [errW_none, errW_some] <;> rfl) | (simp [*, errW_none, errW_some] <;> rfl), by repeat (first | (with_reducible first | exact HB.out | apply below_alloc | apply pw_below_drewN | apply below_drew1 | refine below_set ?_ GE180.out | refine below_set ?_ GE181.out | refine below_set ?_ GE203.out) | exact HB.out)⟩
                · replace c121 := Bool.eq_false_iff.mpr c121
                  subst c121
                  have H1 : (some 7) = some r := by rw [if_neg (show ¬ (false = true) by decide)] at H; exact H
                  clear H
                  have H := H1
                  clear H1
                  obtain rfl := Option.some.inj H
                  have hnb133 := NB181_180.out
                  have hnc133 := NB180_181.out
                  have hnb134 := NB181_203.out
                  have hnc134 := NB203_181.out
                  have hcz135_0 : wc.cell? ⟨gb181, 0, none⟩ = some (.int .i64 a2_0) := (blk_cell BK181.out 0).trans rfl
                  have hcz135_1 : wc.cell? ⟨gb181, 1, none⟩ = some (.slice A2_1 l2_1.length c2_1) := (blk_cell BK181.out 1).trans rfl
                  have hcz135_2 : wc.cell? ⟨gb181, 2, none⟩ = some (.slice A2_2 l2_2.length c2_2) := (blk_cell BK181.out 2).trans rfl
                  have hfz135_0 := blk_frozen BK181.out 0
                  have hfz135_1 := blk_frozen BK181.out 1
                  have hfz135_2 := blk_frozen BK181.out 2
                  go_wp2_with (first | ((with_reducible refine gate_store (t := 35) rfl ?_); refine wpList_store_row rfl 35 _ _ rfl _ _ rfl rfl 35 _ (by first | exact blk_new _ _ | exact blk_alloc (blk_new _ _) _) (by kernel_rfl) rfl (by simp [Value.oneCell']) ?_; (first | rw [Own.alloc_setRow] | rw [Own.alloc2_setRow0] | rw [Own.alloc2_setRow1])) | ((with_reducible refine gate_callee (f := 11) rfl ?_); refine goesL_ (some 59) rfl rfl Tryd.func11 (by kernel_rfl) rfl #[.slice A2_1 l2_1.length c2_1, .string (⟨#[86, 97, 114, 121]⟩ : ByteArray)] rfl (by (try simp only [List.map_toArray, List.map_cons, List.map_nil]); first | done | rfl | (simp only [List.length_drop, List.length_take]; rfl)) ?_; (with_reducible refine (head_All.calls kj73 _ _ l2_1 (⟨#[86, 97, 114, 121]⟩ : ByteArray) t228 _ ?side1 ?side2 A90.out).mono ?_); (case side1 => repeat (first | exact (Kd.C_below HR2_1.out HB.out) | (with_reducible refine Kd.C_alloc ?_ _) | (with_reducible refine Kd.C_drewN ?_ _) | (with_reducible refine Kd.C_drew ?_))); (case side2 => exact HC2_1.out); rintro e w136 ⟨v229, rfl, ho0, hb⟩; refine ⟨_, rfl, ?_⟩; have n0_ := Aside0.mk (Kd.R_lower ho0 (below_size (by repeat (first | (with_reducible first | exact HB.out | apply below_alloc | apply pw_below_drewN | apply below_drew1 | refine below_set ?_ GE180.out | refine below_set ?_ GE181.out | refine below_set ?_ GE203.out) | exact HB.out)))); have n1_ := Aside0.mk (blk_below (g := gb180) (o := .cells #[.string a1_0, .string a1_1, .string a1_2, .slice A1_3 l1_3.length c1_3] 24 (0, 0)) (by (with_reducible repeat (first | refine blk_drewN ?_ _ | refine blk_drew ?_ | refine blk_alloc ?_ _)); exact BK180.out) hb); have n2_ := Aside0.mk (blk_below (g := gb181) (o := .cells #[.int .i64 a2_0, .slice A2_1 l2_1.length c2_1, .slice A2_2 l2_2.length c2_2] 27 (0, 0)) (by (with_reducible repeat (first | refine blk_drewN ?_ _ | refine blk_drew ?_ | refine blk_alloc ?_ _)); exact BK181.out) hb); have n3_ := Aside0.mk (blk_below (g := gb203) (o := .cells #[.bool t182, .bool t183, .bool t184, .bool false, .bool t186, .bool t187, .bool t188, .bool t189, .bool t190, .bool t191, .bool t192, .bool t193, .int .i64 t194, .bool t195, .int .i64 t196, .bool t197, .int .i64 t198, .bool t199, .int .i64 t200, .bool t201, .int .i64 t202] 35 (0, 0)) (by (with_reducible repeat (first | refine blk_drewN ?_ _ | refine blk_drew ?_ | refine blk_alloc ?_ _)); exact BK203.out) hb); have n4_ := Aside0.mk (below_step (by repeat (first | (with_reducible first | exact HB.out | apply below_alloc | apply pw_below_drewN | apply below_drew1 | refine below_set ?_ GE180.out | refine below_set ?_ GE181.out | refine below_set ?_ GE203.out) | exact HB.out)) hb); clear BK180; clear BK181; clear BK203; clear HB; have HO230 := n0_; have BK180 := n1_; have BK181 := n2_; have BK203 := n3_; have HB := n4_; clear n0_ n1_ n2_ n3_ n4_; (try clear hb); (try clear hb2); (try clear hk); (try clear hi); (try clear ho0); obtain ⟨Ao137, co137, eo137⟩ := Kd.R_slice HO230.out; subst eo137) | ((with_reducible refine gate_callee (f := 19) rfl ?_); refine goesL_ (some 60) rfl rfl Tryd.func19 (by kernel_rfl) rfl #[.slice Ao137 t228.length co137] rfl (by (try simp only [List.map_toArray, List.map_cons, List.map_nil]); first | done | rfl | (simp only [List.length_drop, List.length_take]; rfl)) ?_; (with_reducible refine (vary_Parse.calls kj73 _ _ t228 false t232 _ ?side1 ?side2 A91.out).mono ?_); (case side1 => repeat (first | exact (Kd.R_reads' HO230.out).2.2 | (with_reducible refine Kd.C_alloc ?_ _) | (with_reducible refine Kd.C_drewN ?_ _) | (with_reducible refine Kd.C_drew ?_))); (case side2 => exact (Kd.R_reads' HO230.out).2.1); rintro e w138 ⟨v233, rfl, ho0, hb⟩; refine ⟨_, rfl, ?_⟩; have n0_ := Aside0.mk (Kd.R_elder' (by (with_reducible repeat (first | apply Kd.R_alloc | apply Kd.R_drewN | apply Kd.R_drew)); exact HO230.out) (Kd.R_base ho0) hb); have n1_ := Aside0.mk (Kd.R_lower (Kd.R_new' ho0 (Kd.R_lt (by (with_reducible repeat (first | apply Kd.R_alloc | apply Kd.R_drewN | apply Kd.R_drew)); exact HO230.out))) (below_size (by repeat (first | (with_reducible first | exact HB.out | apply below_alloc | apply pw_below_drewN | apply below_drew1 | refine below_set ?_ GE180.out | refine below_set ?_ GE181.out | refine below_set ?_ GE203.out) | exact HB.out)))); have n2_ := Aside0.mk (blk_below (g := gb180) (o := .cells #[.string a1_0, .string a1_1, .string a1_2, .slice A1_3 l1_3.length c1_3] 24 (0, 0)) (by (with_reducible repeat (first | refine blk_drewN ?_ _ | refine blk_drew ?_ | refine blk_alloc ?_ _)); exact BK180.out) hb); have n3_ := Aside0.mk (blk_below (g := gb181) (o := .cells #[.int .i64 a2_0, .slice A2_1 l2_1.length c2_1, .slice A2_2 l2_2.length c2_2] 27 (0, 0)) (by (with_reducible repeat (first | refine blk_drewN ?_ _ | refine blk_drew ?_ | refine blk_alloc ?_ _)); exact BK181.out) hb); have n4_ := Aside0.mk (blk_below (g := gb203) (o := .cells #[.bool t182, .bool t183, .bool t184, .bool false, .bool t186, .bool t187, .bool t188, .bool t189, .bool t190, .bool t191, .bool t192, .bool t193, .int .i64 t194, .bool t195, .int .i64 t196, .bool t197, .int .i64 t198, .bool t199, .int .i64 t200, .bool t201, .int .i64 t202] 35 (0, 0)) (by (with_reducible repeat (first | refine blk_drewN ?_ _ | refine blk_drew ?_ | refine blk_alloc ?_ _)); exact BK203.out) hb); have n5_ := Aside0.mk (below_step (by repeat (first | (with_reducible first | exact HB.out | apply below_alloc | apply pw_below_drewN | apply below_drew1 | refine below_set ?_ GE180.out | refine below_set ?_ GE181.out | refine below_set ?_ GE203.out) | exact HB.out)) hb); clear HO230; clear BK180; clear BK181; clear BK203; clear HB; have HO230 := n0_; have HO234 := n1_; have BK180 := n2_; have BK181 := n3_; have BK203 := n4_; have HB := n5_; clear n0_ n1_ n2_ n3_ n4_ n5_; (try clear hb); (try clear hb2); (try clear hk); (try clear hi); (try clear ho0); have hcz139_0 : w138.cell? ⟨gb181, 0, none⟩ = some (.int .i64 a2_0) := (blk_cell BK181.out 0).trans rfl; have hcz139_1 : w138.cell? ⟨gb181, 1, none⟩ = some (.slice A2_1 l2_1.length c2_1) := (blk_cell BK181.out 1).trans rfl; have hcz139_2 : w138.cell? ⟨gb181, 2, none⟩ = some (.slice A2_2 l2_2.length c2_2) := (blk_cell BK181.out 2).trans rfl; have hfz139_0 := blk_frozen BK181.out 0; have hfz139_1 := blk_frozen BK181.out 1; have hfz139_2 := blk_frozen BK181.out 2) | ((with_reducible refine gate_callee (f := 20) rfl ?_); refine goesL_ (some 66) rfl rfl Tryd.func20 (by kernel_rfl) rfl #[.bool a0, .slice A2_1 l2_1.length c2_1] rfl (by (try simp only [List.map_toArray, List.map_cons, List.map_nil]); first | done | rfl | (simp only [List.length_drop, List.length_take]; rfl)) ?_; (with_reducible refine (age_Explicit.calls kj73 a0 _ _ l2_1 false _ ?side1 ?side2 A99.out).mono ?_); (case side1 => repeat (first | exact (Kd.C_below HR2_1.out HB.out) | (with_reducible refine Kd.C_alloc ?_ _) | (with_reducible refine Kd.C_drewN ?_ _) | (with_reducible refine Kd.C_drew ?_))); (case side2 => exact HC2_1.out); rintro e w140 ⟨rfl, hb⟩; refine ⟨_, rfl, ?_⟩; have n0_ := Aside0.mk (Kd.R_below (by (with_reducible repeat (first | apply Kd.R_alloc | apply Kd.R_drewN | apply Kd.R_drew)); exact HO230.out) hb); have n1_ := Aside0.mk (Kd.R_below (by (with_reducible repeat (first | apply Kd.R_alloc | apply Kd.R_drewN | apply Kd.R_drew)); exact HO234.out) hb); have n2_ := Aside0.mk (blk_below (g := gb180) (o := .cells #[.string a1_0, .string a1_1, .string a1_2, .slice A1_3 l1_3.length c1_3] 24 (0, 0)) (by (with_reducible repeat (first | refine blk_drewN ?_ _ | refine blk_drew ?_ | refine blk_alloc ?_ _)); exact BK180.out) hb); have n3_ := Aside0.mk (blk_below (g := gb181) (o := .cells #[.int .i64 a2_0, .slice A2_1 l2_1.length c2_1, .slice A2_2 l2_2.length c2_2] 27 (0, 0)) (by (with_reducible repeat (first | refine blk_drewN ?_ _ | refine blk_drew ?_ | refine blk_alloc ?_ _)); exact BK181.out) hb); have n4_ := Aside0.mk (blk_below (g := gb203) (o := .cells #[.bool t182, .bool t183, .bool t184, .bool false, .bool t186, .bool t187, .bool t188, .bool t189, .bool t190, .bool t191, .bool t192, .bool t193, .int .i64 t194, .bool t195, .int .i64 t196, .bool t197, .int .i64 t198, .bool t199, .int .i64 t200, .bool t201, .int .i64 t202] 35 (0, 0)) (by (with_reducible repeat (first | refine blk_drewN ?_ _ | refine blk_drew ?_ | refine blk_alloc ?_ _)); exact BK203.out) hb); have n5_ := Aside0.mk (below_step (by repeat (first | (with_reducible first | exact HB.out | apply below_alloc | apply pw_below_drewN | apply below_drew1 | refine below_set ?_ GE180.out | refine below_set ?_ GE181.out | refine below_set ?_ GE203.out) | exact HB.out)) hb); clear HO230; clear HO234; clear BK180; clear BK181; clear BK203; clear HB; have HO230 := n0_; have HO234 := n1_; have BK180 := n2_; have BK181 := n3_; have BK203 := n4_; have HB := n5_; clear n0_ n1_ n2_ n3_ n4_ n5_; (try clear hb); (try clear hb2); (try clear hk); (try clear hi); have hnb141 := NB203_180.out; have hnc141 := NB180_203.out; have hcz142_0 : w140.cell? ⟨gb203, 0, none⟩ = some (.bool t182) := (blk_cell BK203.out 0).trans rfl; have hcz142_1 : w140.cell? ⟨gb203, 1, none⟩ = some (.bool t183) := (blk_cell BK203.out 1).trans rfl; have hcz142_2 : w140.cell? ⟨gb203, 2, none⟩ = some (.bool t184) := (blk_cell BK203.out 2).trans rfl; have hcz142_3 : w140.cell? ⟨gb203, 3, none⟩ = some (.bool false) := (blk_cell BK203.out 3).trans rfl; have hcz142_4 : w140.cell? ⟨gb203, 4, none⟩ = some (.bool t186) := (blk_cell BK203.out 4).trans rfl; have hcz142_5 : w140.cell? ⟨gb203, 5, none⟩ = some (.bool t187) := (blk_cell BK203.out 5).trans rfl; have hcz142_6 : w140.cell? ⟨gb203, 6, none⟩ = some (.bool t188) := (blk_cell BK203.out 6).trans rfl; have hcz142_7 : w140.cell? ⟨gb203, 7, none⟩ = some (.bool t189) := (blk_cell BK203.out 7).trans rfl; have hcz142_8 : w140.cell? ⟨gb203, 8, none⟩ = some (.bool t190) := (blk_cell BK203.out 8).trans rfl; have hcz142_9 : w140.cell? ⟨gb203, 9, none⟩ = some (.bool t191) := (blk_cell BK203.out 9).trans rfl; have hcz142_10 : w140.cell? ⟨gb203, 10, none⟩ = some (.bool t192) := (blk_cell BK203.out 10).trans rfl; have hcz142_11 : w140.cell? ⟨gb203, 11, none⟩ = some (.bool t193) := (blk_cell BK203.out 11).trans rfl; have hcz142_12 : w140.cell? ⟨gb203, 12, none⟩ = some (.int .i64 t194) := (blk_cell BK203.out 12).trans rfl; have hcz142_13 : w140.cell? ⟨gb203, 13, none⟩ = some (.bool t195) := (blk_cell BK203.out 13).trans rfl; have hcz142_14 : w140.cell? ⟨gb203, 14, none⟩ = some (.int .i64 t196) := (blk_cell BK203.out 14).trans rfl; have hcz142_15 : w140.cell? ⟨gb203, 15, none⟩ = some (.bool t197) := (blk_cell BK203.out 15).trans rfl; have hcz142_16 : w140.cell? ⟨gb203, 16, none⟩ = some (.int .i64 t198) := (blk_cell BK203.out 16).trans rfl; have hcz142_17 : w140.cell? ⟨gb203, 17, none⟩ = some (.bool t199) := (blk_cell BK203.out 17).trans rfl; have hcz142_18 : w140.cell? ⟨gb203, 18, none⟩ = some (.int .i64 t200) := (blk_cell BK203.out 18).trans rfl; have hcz142_19 : w140.cell? ⟨gb203, 19, none⟩ = some (.bool t201) := (blk_cell BK203.out 19).trans rfl; have hcz142_20 : w140.cell? ⟨gb203, 20, none⟩ = some (.int .i64 t202) := (blk_cell BK203.out 20).trans rfl; have hfz142_0 := blk_frozen BK203.out 0; have hfz142_1 := blk_frozen BK203.out 1; have hfz142_2 := blk_frozen BK203.out 2; have hfz142_3 := blk_frozen BK203.out 3; have hfz142_4 := blk_frozen BK203.out 4; have hfz142_5 := blk_frozen BK203.out 5; have hfz142_6 := blk_frozen BK203.out 6; have hfz142_7 := blk_frozen BK203.out 7; have hfz142_8 := blk_frozen BK203.out 8; have hfz142_9 := blk_frozen BK203.out 9; have hfz142_10 := blk_frozen BK203.out 10; have hfz142_11 := blk_frozen BK203.out 11; have hfz142_12 := blk_frozen BK203.out 12; have hfz142_13 := blk_frozen BK203.out 13; have hfz142_14 := blk_frozen BK203.out 14; have hfz142_15 := blk_frozen BK203.out 15; have hfz142_16 := blk_frozen BK203.out 16; have hfz142_17 := blk_frozen BK203.out 17; have hfz142_18 := blk_frozen BK203.out 18; have hfz142_19 := blk_frozen BK203.out 19; have hfz142_20 := blk_frozen BK203.out 20; have hcz143_0 : w140.cell? ⟨gb181, 0, none⟩ = some (.int .i64 a2_0) := (blk_cell BK181.out 0).trans rfl; have hcz143_1 : w140.cell? ⟨gb181, 1, none⟩ = some (.slice A2_1 l2_1.length c2_1) := (blk_cell BK181.out 1).trans rfl; have hcz143_2 : w140.cell? ⟨gb181, 2, none⟩ = some (.slice A2_2 l2_2.length c2_2) := (blk_cell BK181.out 2).trans rfl; have hfz143_0 := blk_frozen BK181.out 0; have hfz143_1 := blk_frozen BK181.out 1; have hfz143_2 := blk_frozen BK181.out 2) | (go_at_call 12; (with_reducible refine (age_Usual.calls a2_0 false _ A120.out).mono ?_); rintro e w' ⟨rfl, ⟨nd, rfl⟩⟩))
                  go_ret
                  exact ⟨by first | rfl | (simp [errW_none, errW_some] <;> rfl) | (simp [*, errW_none, errW_some] <;> rfl), by repeat (first | (with_reducible first | exact HB.out | apply below_alloc | apply pw_below_drewN | apply below_drew1 | refine below_set ?_ GE180.out | refine below_set ?_ GE181.out | refine below_set ?_ GE203.out) | exact HB.out)⟩

end Go.Proofs.YtbnlglfddglceaaDoor.Q
