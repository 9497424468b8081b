-- Written by a program of this session's (wip/xprint.py), out of the seat's translation.
import Derived.Test.YtbnlglfddglceaaDoorQ0
import Derived.Test.YtbnlglfddglceaaDoorQ1
import Derived.Test.YtbnlglfddglceaaDoorQ3
import Derived.Test.YtbnlglfddglceaaDoorQ6
import Derived.Test.YtbnlglfddglceaaDoorQ7
namespace Go.Proofs.YtbnlglfddglceaaDoor.Q
open Go.RowKit Go.Proofs.YtbnlglfddglceaaDoorW.PrintWords Go.Proofs.YtbnlglfddglceaaDoorW.PrintLast Go.Proofs.YtbnlglfddglceaaDoorW.PrintMore
attribute [local go_sem] max2_int min2_int max_two min_two max_three min_three max_four min_four   -- for this text's walks alone
set_option linter.unusedVariables false
set_option linter.unusedSimpArgs false

open Go.Proofs.YtbnlglfddglceaaDoor.Own (Y Z sA sB sC)
/-! ### sprlaw20_MayShared: function 3 -/
mutual
def sprlaw20_MayShared.j0 : Nat → Bool → ByteArray → ByteArray → ByteArray → List (S42) → Int → List (S42) → List Int → Option (Bool)
 | 0, _, _, _, _, _, _, _, _ => none
 | k + 1, x18, x257000, x257001, x257002, x257003, x258000, x258001, x258002 => if x18 = true then ((sprlaw20_first.f k).bind fun t261 => (some t261)) else ((may_Store.f k true x257000 x257001 x257002 x257003 x258000 x258001 x258002).bind fun t262 => ((may_Store.f k false x257000 x257001 x257002 x257003 x258000 x258001 x258002).bind fun t263 => ((head_All.f k x257003 (⟨#[67, 97, 99, 104, 101, 45, 67, 111, 110, 116, 114, 111, 108]⟩ : ByteArray)).bind fun t264 => ((cc_Parse.f k t264).bind fun bt267 => ((head_All.f k x258001 (⟨#[67, 97, 99, 104, 101, 45, 67, 111, 110, 116, 114, 111, 108]⟩ : ByteArray)).bind fun t288 => ((cc_Parse.f k t288).bind fun bt291 => (if t262 = 0 then (if t263 = 0 then (sprlaw20_MayShared.j1 k t262 t263 false x257000 x257001 x257002 x257003 x258000 x258001 x258002 bt267.1 bt267.2.1 bt267.2.2.1 bt267.2.2.2.1 bt267.2.2.2.2.1 bt267.2.2.2.2.2.1 bt267.2.2.2.2.2.2.1 bt267.2.2.2.2.2.2.2.1 bt267.2.2.2.2.2.2.2.2.1 bt267.2.2.2.2.2.2.2.2.2.1 bt267.2.2.2.2.2.2.2.2.2.2.1 bt267.2.2.2.2.2.2.2.2.2.2.2.1 bt267.2.2.2.2.2.2.2.2.2.2.2.2.1 bt267.2.2.2.2.2.2.2.2.2.2.2.2.2.1 bt267.2.2.2.2.2.2.2.2.2.2.2.2.2.2.1 bt267.2.2.2.2.2.2.2.2.2.2.2.2.2.2.2.1 bt267.2.2.2.2.2.2.2.2.2.2.2.2.2.2.2.2.1 bt267.2.2.2.2.2.2.2.2.2.2.2.2.2.2.2.2.2.1 bt267.2.2.2.2.2.2.2.2.2.2.2.2.2.2.2.2.2.2.1 bt267.2.2.2.2.2.2.2.2.2.2.2.2.2.2.2.2.2.2.2.1 bt267.2.2.2.2.2.2.2.2.2.2.2.2.2.2.2.2.2.2.2.2 bt291.1 bt291.2.1 bt291.2.2.1 bt291.2.2.2.1 bt291.2.2.2.2.1 bt291.2.2.2.2.2.1 bt291.2.2.2.2.2.2.1 bt291.2.2.2.2.2.2.2.1 bt291.2.2.2.2.2.2.2.2.1 bt291.2.2.2.2.2.2.2.2.2.1 bt291.2.2.2.2.2.2.2.2.2.2.1 bt291.2.2.2.2.2.2.2.2.2.2.2.1 bt291.2.2.2.2.2.2.2.2.2.2.2.2.1 bt291.2.2.2.2.2.2.2.2.2.2.2.2.2.1 bt291.2.2.2.2.2.2.2.2.2.2.2.2.2.2.1 bt291.2.2.2.2.2.2.2.2.2.2.2.2.2.2.2.1 bt291.2.2.2.2.2.2.2.2.2.2.2.2.2.2.2.2.1 bt291.2.2.2.2.2.2.2.2.2.2.2.2.2.2.2.2.2.1 bt291.2.2.2.2.2.2.2.2.2.2.2.2.2.2.2.2.2.2.1 bt291.2.2.2.2.2.2.2.2.2.2.2.2.2.2.2.2.2.2.2.1 bt291.2.2.2.2.2.2.2.2.2.2.2.2.2.2.2.2.2.2.2.2) else ((age_Usual.f x258000).bind fun t314 => (if t314 = true then (sprlaw20_MayShared.j1 k t262 t263 true x257000 x257001 x257002 x257003 x258000 x258001 x258002 bt267.1 bt267.2.1 bt267.2.2.1 bt267.2.2.2.1 bt267.2.2.2.2.1 bt267.2.2.2.2.2.1 bt267.2.2.2.2.2.2.1 bt267.2.2.2.2.2.2.2.1 bt267.2.2.2.2.2.2.2.2.1 bt267.2.2.2.2.2.2.2.2.2.1 bt267.2.2.2.2.2.2.2.2.2.2.1 bt267.2.2.2.2.2.2.2.2.2.2.2.1 bt267.2.2.2.2.2.2.2.2.2.2.2.2.1 bt267.2.2.2.2.2.2.2.2.2.2.2.2.2.1 bt267.2.2.2.2.2.2.2.2.2.2.2.2.2.2.1 bt267.2.2.2.2.2.2.2.2.2.2.2.2.2.2.2.1 bt267.2.2.2.2.2.2.2.2.2.2.2.2.2.2.2.2.1 bt267.2.2.2.2.2.2.2.2.2.2.2.2.2.2.2.2.2.1 bt267.2.2.2.2.2.2.2.2.2.2.2.2.2.2.2.2.2.2.1 bt267.2.2.2.2.2.2.2.2.2.2.2.2.2.2.2.2.2.2.2.1 bt267.2.2.2.2.2.2.2.2.2.2.2.2.2.2.2.2.2.2.2.2 bt291.1 bt291.2.1 bt291.2.2.1 bt291.2.2.2.1 bt291.2.2.2.2.1 bt291.2.2.2.2.2.1 bt291.2.2.2.2.2.2.1 bt291.2.2.2.2.2.2.2.1 bt291.2.2.2.2.2.2.2.2.1 bt291.2.2.2.2.2.2.2.2.2.1 bt291.2.2.2.2.2.2.2.2.2.2.1 bt291.2.2.2.2.2.2.2.2.2.2.2.1 bt291.2.2.2.2.2.2.2.2.2.2.2.2.1 bt291.2.2.2.2.2.2.2.2.2.2.2.2.2.1 bt291.2.2.2.2.2.2.2.2.2.2.2.2.2.2.1 bt291.2.2.2.2.2.2.2.2.2.2.2.2.2.2.2.1 bt291.2.2.2.2.2.2.2.2.2.2.2.2.2.2.2.2.1 bt291.2.2.2.2.2.2.2.2.2.2.2.2.2.2.2.2.2.1 bt291.2.2.2.2.2.2.2.2.2.2.2.2.2.2.2.2.2.2.1 bt291.2.2.2.2.2.2.2.2.2.2.2.2.2.2.2.2.2.2.2.1 bt291.2.2.2.2.2.2.2.2.2.2.2.2.2.2.2.2.2.2.2.2) else (sprlaw20_MayShared.j1 k t262 t263 (!bt291.2.2.2.2.2.2.2.2.2.2.2.2.2.1) x257000 x257001 x257002 x257003 x258000 x258001 x258002 bt267.1 bt267.2.1 bt267.2.2.1 bt267.2.2.2.1 bt267.2.2.2.2.1 bt267.2.2.2.2.2.1 bt267.2.2.2.2.2.2.1 bt267.2.2.2.2.2.2.2.1 bt267.2.2.2.2.2.2.2.2.1 bt267.2.2.2.2.2.2.2.2.2.1 bt267.2.2.2.2.2.2.2.2.2.2.1 bt267.2.2.2.2.2.2.2.2.2.2.2.1 bt267.2.2.2.2.2.2.2.2.2.2.2.2.1 bt267.2.2.2.2.2.2.2.2.2.2.2.2.2.1 bt267.2.2.2.2.2.2.2.2.2.2.2.2.2.2.1 bt267.2.2.2.2.2.2.2.2.2.2.2.2.2.2.2.1 bt267.2.2.2.2.2.2.2.2.2.2.2.2.2.2.2.2.1 bt267.2.2.2.2.2.2.2.2.2.2.2.2.2.2.2.2.2.1 bt267.2.2.2.2.2.2.2.2.2.2.2.2.2.2.2.2.2.2.1 bt267.2.2.2.2.2.2.2.2.2.2.2.2.2.2.2.2.2.2.2.1 bt267.2.2.2.2.2.2.2.2.2.2.2.2.2.2.2.2.2.2.2.2 bt291.1 bt291.2.1 bt291.2.2.1 bt291.2.2.2.1 bt291.2.2.2.2.1 bt291.2.2.2.2.2.1 bt291.2.2.2.2.2.2.1 bt291.2.2.2.2.2.2.2.1 bt291.2.2.2.2.2.2.2.2.1 bt291.2.2.2.2.2.2.2.2.2.1 bt291.2.2.2.2.2.2.2.2.2.2.1 bt291.2.2.2.2.2.2.2.2.2.2.2.1 bt291.2.2.2.2.2.2.2.2.2.2.2.2.1 bt291.2.2.2.2.2.2.2.2.2.2.2.2.2.1 bt291.2.2.2.2.2.2.2.2.2.2.2.2.2.2.1 bt291.2.2.2.2.2.2.2.2.2.2.2.2.2.2.2.1 bt291.2.2.2.2.2.2.2.2.2.2.2.2.2.2.2.2.1 bt291.2.2.2.2.2.2.2.2.2.2.2.2.2.2.2.2.2.1 bt291.2.2.2.2.2.2.2.2.2.2.2.2.2.2.2.2.2.2.1 bt291.2.2.2.2.2.2.2.2.2.2.2.2.2.2.2.2.2.2.2.1 bt291.2.2.2.2.2.2.2.2.2.2.2.2.2.2.2.2.2.2.2.2)))) else (sprlaw20_MayShared.j1 k t262 t263 false x257000 x257001 x257002 x257003 x258000 x258001 x258002 bt267.1 bt267.2.1 bt267.2.2.1 bt267.2.2.2.1 bt267.2.2.2.2.1 bt267.2.2.2.2.2.1 bt267.2.2.2.2.2.2.1 bt267.2.2.2.2.2.2.2.1 bt267.2.2.2.2.2.2.2.2.1 bt267.2.2.2.2.2.2.2.2.2.1 bt267.2.2.2.2.2.2.2.2.2.2.1 bt267.2.2.2.2.2.2.2.2.2.2.2.1 bt267.2.2.2.2.2.2.2.2.2.2.2.2.1 bt267.2.2.2.2.2.2.2.2.2.2.2.2.2.1 bt267.2.2.2.2.2.2.2.2.2.2.2.2.2.2.1 bt267.2.2.2.2.2.2.2.2.2.2.2.2.2.2.2.1 bt267.2.2.2.2.2.2.2.2.2.2.2.2.2.2.2.2.1 bt267.2.2.2.2.2.2.2.2.2.2.2.2.2.2.2.2.2.1 bt267.2.2.2.2.2.2.2.2.2.2.2.2.2.2.2.2.2.2.1 bt267.2.2.2.2.2.2.2.2.2.2.2.2.2.2.2.2.2.2.2.1 bt267.2.2.2.2.2.2.2.2.2.2.2.2.2.2.2.2.2.2.2.2 bt291.1 bt291.2.1 bt291.2.2.1 bt291.2.2.2.1 bt291.2.2.2.2.1 bt291.2.2.2.2.2.1 bt291.2.2.2.2.2.2.1 bt291.2.2.2.2.2.2.2.1 bt291.2.2.2.2.2.2.2.2.1 bt291.2.2.2.2.2.2.2.2.2.1 bt291.2.2.2.2.2.2.2.2.2.2.1 bt291.2.2.2.2.2.2.2.2.2.2.2.1 bt291.2.2.2.2.2.2.2.2.2.2.2.2.1 bt291.2.2.2.2.2.2.2.2.2.2.2.2.2.1 bt291.2.2.2.2.2.2.2.2.2.2.2.2.2.2.1 bt291.2.2.2.2.2.2.2.2.2.2.2.2.2.2.2.1 bt291.2.2.2.2.2.2.2.2.2.2.2.2.2.2.2.2.1 bt291.2.2.2.2.2.2.2.2.2.2.2.2.2.2.2.2.2.1 bt291.2.2.2.2.2.2.2.2.2.2.2.2.2.2.2.2.2.2.1 bt291.2.2.2.2.2.2.2.2.2.2.2.2.2.2.2.2.2.2.2.1 bt291.2.2.2.2.2.2.2.2.2.2.2.2.2.2.2.2.2.2.2.2))))))))
def sprlaw20_MayShared.j1 : Nat → Int → Int → Bool → ByteArray → ByteArray → ByteArray → List (S42) → Int → List (S42) → List Int → Bool → Bool → Bool → Bool → Bool → Bool → Bool → Bool → Bool → Bool → Bool → Bool → Int → Bool → Int → Bool → Int → Bool → Int → Bool → Int → Bool → Bool → Bool → Bool → Bool → Bool → Bool → Bool → Bool → Bool → Bool → Bool → Int → Bool → Int → Bool → Int → Bool → Int → Bool → Int → Option (Bool)
 | 0, _, _, _, _, _, _, _, _, _, _, _, _, _, _, _, _, _, _, _, _, _, _, _, _, _, _, _, _, _, _, _, _, _, _, _, _, _, _, _, _, _, _, _, _, _, _, _, _, _, _, _, _ => none
 | k + 1, x5, x6, x50, x257000, x257001, x257002, x257003, x258000, x258001, x258002, x313000, x313001, x313002, x313003, x313004, x313005, x313006, x313007, x313008, x313009, x313010, x313011, x313012, x313013, x313014, x313015, x313016, x313017, x313018, x313019, x313020, x314000, x314001, x314002, x314003, x314004, x314005, x314006, x314007, x314008, x314009, x314010, x314011, x314012, x314013, x314014, x314015, x314016, x314017, x314018, x314019, x314020 => if x50 = true then (some false) else (if x6 = 0 then (if x313000 = true then (some false) else (if x314000 = true then (some false) else (if x257001.toList = ([71, 69, 84] : List UInt8) then (if x258000 = 206 then (some false) else (if x258000 = 304 then (some false) else (if x258000 < 200 then (some false) else ((sprlaw20_first.f k).bind fun t315 => (if t315 = true then (if x5 = 0 then (if x314002 = true then (some false) else (some true)) else (some true)) else (some false)))))) else (some false)))) else ((sprlaw20_first.f k).bind fun t316 => (if t316 = true then (if x5 = 0 then (if x314002 = true then (some false) else (if x6 ≥ 1 then (some (decide (x6 ≤ 7))) else (some false))) else (if x6 ≥ 1 then (some (decide (x6 ≤ 7))) else (some false))) else (some false))))
end
def sprlaw20_MayShared.f (k : Nat) (a0_0 : ByteArray) (a0_1 : ByteArray) (a0_2 : ByteArray) (l0_3 : List (S42)) (a1_0 : Int) (l1_1 : List (S42)) (l1_2 : List Int) : Option (Bool) := (sprlaw20_first.f k).bind fun t258 => (if t258 = true then ((sprlaw20_FewReq.f k a0_0 a0_1 a0_2 l0_3).bind fun t259 => (if t259 = true then ((sprlaw20_FewResp.f k a1_0 l1_1 l1_2).bind fun t260 => (sprlaw20_MayShared.j0 k (!t260) a0_0 a0_1 a0_2 l0_3 a1_0 l1_1 l1_2)) else (sprlaw20_MayShared.j0 k true a0_0 a0_1 a0_2 l0_3 a1_0 l1_1 l1_2))) else (some false))
theorem sprlaw20_MayShared.mono_l : ∀ k, (∀ y0 y1 y2 y3 y4 y5 y6 y7, LeO (sprlaw20_MayShared.j0 k y0 y1 y2 y3 y4 y5 y6 y7) (sprlaw20_MayShared.j0 (k + 1) y0 y1 y2 y3 y4 y5 y6 y7)) ∧ (∀ y0 y1 y2 y3 y4 y5 y6 y7 y8 y9 y10 y11 y12 y13 y14 y15 y16 y17 y18 y19 y20 y21 y22 y23 y24 y25 y26 y27 y28 y29 y30 y31 y32 y33 y34 y35 y36 y37 y38 y39 y40 y41 y42 y43 y44 y45 y46 y47 y48 y49 y50 y51, LeO (sprlaw20_MayShared.j1 k y0 y1 y2 y3 y4 y5 y6 y7 y8 y9 y10 y11 y12 y13 y14 y15 y16 y17 y18 y19 y20 y21 y22 y23 y24 y25 y26 y27 y28 y29 y30 y31 y32 y33 y34 y35 y36 y37 y38 y39 y40 y41 y42 y43 y44 y45 y46 y47 y48 y49 y50 y51) (sprlaw20_MayShared.j1 (k + 1) y0 y1 y2 y3 y4 y5 y6 y7 y8 y9 y10 y11 y12 y13 y14 y15 y16 y17 y18 y19 y20 y21 y22 y23 y24 y25 y26 y27 y28 y29 y30 y31 y32 y33 y34 y35 y36 y37 y38 y39 y40 y41 y42 y43 y44 y45 y46 y47 y48 y49 y50 y51))
 | 0 => ⟨fun _ _ _ _ _ _ _ _ r h => by simp [sprlaw20_MayShared.j0] at h, fun _ _ _ _ _ _ _ _ _ _ _ _ _ _ _ _ _ _ _ _ _ _ _ _ _ _ _ _ _ _ _ _ _ _ _ _ _ _ _ _ _ _ _ _ _ _ _ _ _ _ _ _ r h => by simp [sprlaw20_MayShared.j1] at h⟩
 | k + 1 => by
  obtain ⟨ih0, ih1⟩ := sprlaw20_MayShared.mono_l k;refine ⟨?_, ?_⟩
  ·intro y0 y1 y2 y3 y4 y5 y6 y7
   unfold sprlaw20_MayShared.j0
   repeat' first
   | (with_reducible exact ih0 _ _ _ _ _ _ _ _)
   | (with_reducible exact ih1 _ _ _ _ _ _ _ _ _ _ _ _ _ _ _ _ _ _ _ _ _ _ _ _ _ _ _ _ _ _ _ _ _ _ _ _ _ _ _ _ _ _ _ _ _ _ _ _ _ _ _ _)
   | (with_reducible exact cc_Parse.mono _ _)
   | (with_reducible exact head_All.mono _ _ _)
   | (with_reducible exact may_Store.mono _ _ _ _ _ _ _ _ _)
   | (with_reducible exact sprlaw20_FewReq.mono _ _ _ _ _)
   | (with_reducible exact sprlaw20_FewResp.mono _ _ _ _)
   | (with_reducible exact sprlaw20_first.mono _)
   | (with_reducible exact LeO.refl _)
   | (with_reducible exact LeO.none _)
   | (with_reducible refine LeO.ite ?_ ?_)
   | (with_reducible refine LeO.bind ?_ (fun _ => ?_))
   | exact ih0 _ _ _ _ _ _ _ _
   | exact ih1 _ _ _ _ _ _ _ _ _ _ _ _ _ _ _ _ _ _ _ _ _ _ _ _ _ _ _ _ _ _ _ _ _ _ _ _ _ _ _ _ _ _ _ _ _ _ _ _ _ _ _ _
   | exact cc_Parse.mono _ _
   | exact head_All.mono _ _ _
   | exact may_Store.mono _ _ _ _ _ _ _ _ _
   | exact sprlaw20_FewReq.mono _ _ _ _ _
   | exact sprlaw20_FewResp.mono _ _ _ _
   | exact sprlaw20_first.mono _
   | exact LeO.none _
   | refine LeO.ite ?_ ?_
   | refine LeO.bind ?_ (fun _ => ?_)
  ·intro y0 y1 y2 y3 y4 y5 y6 y7 y8 y9 y10 y11 y12 y13 y14 y15 y16 y17 y18 y19 y20 y21 y22 y23 y24 y25 y26 y27 y28 y29 y30 y31 y32 y33 y34 y35 y36 y37 y38 y39 y40 y41 y42 y43 y44 y45 y46 y47 y48 y49 y50 y51
   unfold sprlaw20_MayShared.j1
   repeat' first
   | (with_reducible exact ih0 _ _ _ _ _ _ _ _)
   | (with_reducible exact ih1 _ _ _ _ _ _ _ _ _ _ _ _ _ _ _ _ _ _ _ _ _ _ _ _ _ _ _ _ _ _ _ _ _ _ _ _ _ _ _ _ _ _ _ _ _ _ _ _ _ _ _ _)
   | (with_reducible exact cc_Parse.mono _ _)
   | (with_reducible exact head_All.mono _ _ _)
   | (with_reducible exact may_Store.mono _ _ _ _ _ _ _ _ _)
   | (with_reducible exact sprlaw20_FewReq.mono _ _ _ _ _)
   | (with_reducible exact sprlaw20_FewResp.mono _ _ _ _)
   | (with_reducible exact sprlaw20_first.mono _)
   | (with_reducible exact LeO.refl _)
   | (with_reducible exact LeO.none _)
   | (with_reducible refine LeO.ite ?_ ?_)
   | (with_reducible refine LeO.bind ?_ (fun _ => ?_))
   | exact ih0 _ _ _ _ _ _ _ _
   | exact ih1 _ _ _ _ _ _ _ _ _ _ _ _ _ _ _ _ _ _ _ _ _ _ _ _ _ _ _ _ _ _ _ _ _ _ _ _ _ _ _ _ _ _ _ _ _ _ _ _ _ _ _ _
   | exact cc_Parse.mono _ _
   | exact head_All.mono _ _ _
   | exact may_Store.mono _ _ _ _ _ _ _ _ _
   | exact sprlaw20_FewReq.mono _ _ _ _ _
   | exact sprlaw20_FewResp.mono _ _ _ _
   | exact sprlaw20_first.mono _
   | exact LeO.none _
   | refine LeO.ite ?_ ?_
   | refine LeO.bind ?_ (fun _ => ?_)
theorem sprlaw20_MayShared.mono : ∀ a0 a1 a2 a3 a4 a5 a6 k, LeO (sprlaw20_MayShared.f k a0 a1 a2 a3 a4 a5 a6) (sprlaw20_MayShared.f (k + 1) a0 a1 a2 a3 a4 a5 a6) := by
 intro a0 a1 a2 a3 a4 a5 a6 k;obtain ⟨ih0, ih1⟩ := sprlaw20_MayShared.mono_l k
 unfold sprlaw20_MayShared.f
 repeat' first
   | (with_reducible exact ih0 _ _ _ _ _ _ _ _)
   | (with_reducible exact ih1 _ _ _ _ _ _ _ _ _ _ _ _ _ _ _ _ _ _ _ _ _ _ _ _ _ _ _ _ _ _ _ _ _ _ _ _ _ _ _ _ _ _ _ _ _ _ _ _ _ _ _ _)
   | (with_reducible exact cc_Parse.mono _ _)
   | (with_reducible exact head_All.mono _ _ _)
   | (with_reducible exact may_Store.mono _ _ _ _ _ _ _ _ _)
   | (with_reducible exact sprlaw20_FewReq.mono _ _ _ _ _)
   | (with_reducible exact sprlaw20_FewResp.mono _ _ _ _)
   | (with_reducible exact sprlaw20_first.mono _)
   | (with_reducible exact LeO.refl _)
   | (with_reducible exact LeO.none _)
   | (with_reducible refine LeO.ite ?_ ?_)
   | (with_reducible refine LeO.bind ?_ (fun _ => ?_))
   | exact ih0 _ _ _ _ _ _ _ _
   | exact ih1 _ _ _ _ _ _ _ _ _ _ _ _ _ _ _ _ _ _ _ _ _ _ _ _ _ _ _ _ _ _ _ _ _ _ _ _ _ _ _ _ _ _ _ _ _ _ _ _ _ _ _ _
   | exact cc_Parse.mono _ _
   | exact head_All.mono _ _ _
   | exact may_Store.mono _ _ _ _ _ _ _ _ _
   | exact sprlaw20_FewReq.mono _ _ _ _ _
   | exact sprlaw20_FewResp.mono _ _ _ _
   | exact sprlaw20_first.mono _
   | exact LeO.none _
   | refine LeO.ite ?_ ?_
   | refine LeO.bind ?_ (fun _ => ?_)
def sprlaw20_MayShared.T5 : Bool × List (List Nat × List Nat) := (true, [([], []), ([], []), ([0, 1], [0, 1]), ([], []), ([], []), ([3, 4, 2], [3, 4]), ([2, 5, 0, 1, 2], [2]), ([5, 6, 0, 1, 2, 3, 4, 5, 6], [5])])
def sprlaw20_MayShared.B5 : List Nat := [0, 0, 3, 0, 0, 31, 63, 127]
theorem sprlaw20_MayShared.tab5 : rtab .any (opsOf Tryd.f3 5) = sprlaw20_MayShared.T5 := by kernel_rfl
theorem sprlaw20_MayShared.bits5 : waitsOk sprlaw20_MayShared.T5.2 sprlaw20_MayShared.B5 = true := by kernel_rfl
def sprlaw20_MayShared.T6 : Bool × List (List Nat × List Nat) := (true, [([], []), ([0], [0]), ([1], [1]), ([2, 2], [2]), ([], []), ([4], [4]), ([5, 3], [5]), ([6, 6], [6]), ([], []), ([], []), ([8, 3, 7, 0, 1, 2, 3, 8, 9], [3, 8]), ([9, 7, 10, 0, 1, 2, 3, 4, 5, 6, 7, 8, 9, 10], [7, 9])])
def sprlaw20_MayShared.B6 : List Nat := [0, 1, 3, 7, 0, 16, 63, 127, 0, 0, 1023, 2047]
theorem sprlaw20_MayShared.tab6 : rtab .any (opsOf Tryd.f3 6) = sprlaw20_MayShared.T6 := by kernel_rfl
theorem sprlaw20_MayShared.bits6 : waitsOk sprlaw20_MayShared.T6.2 sprlaw20_MayShared.B6 = true := by kernel_rfl
end Go.Proofs.YtbnlglfddglceaaDoor.Q
