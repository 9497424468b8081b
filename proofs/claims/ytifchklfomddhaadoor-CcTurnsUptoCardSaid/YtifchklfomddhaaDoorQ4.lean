-- Written by a program of this session's (wip/xprint.py), out of the seat's translation.
import Derived.Test.YtifchklfomddhaaDoorQ0
import Derived.Test.YtifchklfomddhaaDoorQ1
import Derived.Test.YtifchklfomddhaaDoorQ3
namespace Go.Proofs.YtifchklfomddhaaDoor.Q
open Go.RowKit Go.Proofs.YtifchklfomddhaaDoorW.PrintWords Go.Proofs.YtifchklfomddhaaDoorW.PrintLast Go.Proofs.YtifchklfomddhaaDoorW.PrintMore
attribute [local go_sem] max2_int min2_int max_two min_two max_three min_three max_four min_four   -- for this text's walks alone
set_option linter.unusedVariables false
set_option linter.unusedSimpArgs false

attribute [local go_sem high] eqA35
/-! ### sprlaw14_CcTurns: function 5 -/
mutual
def sprlaw14_CcTurns.j0 : Nat → List ByteArray → List ByteArray → Bool → Option (Bool)
  | 0, _, _, _ => none
  | k + 1, x0, x1, x20 => if x20 = true then ((sprlaw14_first.f k).bind fun t119 => (some t119)) else ((sprref_CopyTexts.f x0).bind fun t120 => (if t120.length + x1.length < 8796093022208 then ((cc_Parse.f k (t120 ++ x1)).bind fun bt126 => ((sprref_CopyTexts.f x1).bind fun t147 => (if t147.length + x0.length < 8796093022208 then ((cc_Parse.f k (t147 ++ x0)).bind fun bt153 => (sprlaw14_CcTurns.l0 k x0 (⟨#[]⟩ : ByteArray) false 0 bt126.1 bt126.2.1 bt126.2.2.1 bt126.2.2.2.1 bt126.2.2.2.2.1 bt126.2.2.2.2.2.1 bt126.2.2.2.2.2.2.1 bt126.2.2.2.2.2.2.2.1 bt126.2.2.2.2.2.2.2.2.1 bt126.2.2.2.2.2.2.2.2.2.1 bt126.2.2.2.2.2.2.2.2.2.2.1 bt126.2.2.2.2.2.2.2.2.2.2.2.1 bt126.2.2.2.2.2.2.2.2.2.2.2.2.1 bt126.2.2.2.2.2.2.2.2.2.2.2.2.2.1 bt126.2.2.2.2.2.2.2.2.2.2.2.2.2.2.1 bt126.2.2.2.2.2.2.2.2.2.2.2.2.2.2.2.1 bt126.2.2.2.2.2.2.2.2.2.2.2.2.2.2.2.2.1 bt126.2.2.2.2.2.2.2.2.2.2.2.2.2.2.2.2.2.1 bt126.2.2.2.2.2.2.2.2.2.2.2.2.2.2.2.2.2.2.1 bt126.2.2.2.2.2.2.2.2.2.2.2.2.2.2.2.2.2.2.2.1 bt126.2.2.2.2.2.2.2.2.2.2.2.2.2.2.2.2.2.2.2.2 bt153.1 bt153.2.1 bt153.2.2.1 bt153.2.2.2.1 bt153.2.2.2.2.1 bt153.2.2.2.2.2.1 bt153.2.2.2.2.2.2.1 bt153.2.2.2.2.2.2.2.1 bt153.2.2.2.2.2.2.2.2.1 bt153.2.2.2.2.2.2.2.2.2.1 bt153.2.2.2.2.2.2.2.2.2.2.1 bt153.2.2.2.2.2.2.2.2.2.2.2.1 bt153.2.2.2.2.2.2.2.2.2.2.2.2.1 bt153.2.2.2.2.2.2.2.2.2.2.2.2.2.1 bt153.2.2.2.2.2.2.2.2.2.2.2.2.2.2.1 bt153.2.2.2.2.2.2.2.2.2.2.2.2.2.2.2.1 bt153.2.2.2.2.2.2.2.2.2.2.2.2.2.2.2.2.1 bt153.2.2.2.2.2.2.2.2.2.2.2.2.2.2.2.2.2.1 bt153.2.2.2.2.2.2.2.2.2.2.2.2.2.2.2.2.2.2.1 bt153.2.2.2.2.2.2.2.2.2.2.2.2.2.2.2.2.2.2.2.1 bt153.2.2.2.2.2.2.2.2.2.2.2.2.2.2.2.2.2.2.2.2)) else (none)))) else (none)))
def sprlaw14_CcTurns.l0 : Nat → List ByteArray → ByteArray → Bool → Int → Bool → Bool → Bool → Bool → Bool → Bool → Bool → Bool → Bool → Bool → Bool → Bool → Int → Bool → Int → Bool → Int → Bool → Int → Bool → Int → Bool → Bool → Bool → Bool → Bool → Bool → Bool → Bool → Bool → Bool → Bool → Bool → Int → Bool → Int → Bool → Int → Bool → Int → Bool → Int → Option (Bool)
  | 0, _, _, _, _, _, _, _, _, _, _, _, _, _, _, _, _, _, _, _, _, _, _, _, _, _, _, _, _, _, _, _, _, _, _, _, _, _, _, _, _, _, _, _, _, _, _ => none
  | k + 1, x0, x7, x8, x9, x175000, x175001, x175002, x175003, x175004, x175005, x175006, x175007, x175008, x175009, x175010, x175011, x175012, x175013, x175014, x175015, x175016, x175017, x175018, x175019, x175020, x176000, x176001, x176002, x176003, x176004, x176005, x176006, x176007, x176008, x176009, x176010, x176011, x176012, x176013, x176014, x176015, x176016, x176017, x176018, x176019, x176020 => if x9 < (x0.length : Int) then (if x9 > 0 then (if x7.size + 2 ≤ 9223372036854775807 then (sprlaw14_CcTurns.j2 k x0 (x7 ++ (⟨#[44, 32]⟩ : ByteArray)) x8 x9 x175000 x175001 x175002 x175003 x175004 x175005 x175006 x175007 x175008 x175009 x175010 x175011 x175012 x175013 x175014 x175015 x175016 x175017 x175018 x175019 x175020 x176000 x176001 x176002 x176003 x176004 x176005 x176006 x176007 x176008 x176009 x176010 x176011 x176012 x176013 x176014 x176015 x176016 x176017 x176018 x176019 x176020) else (none)) else (sprlaw14_CcTurns.j2 k x0 x7 x8 x9 x175000 x175001 x175002 x175003 x175004 x175005 x175006 x175007 x175008 x175009 x175010 x175011 x175012 x175013 x175014 x175015 x175016 x175017 x175018 x175019 x175020 x176000 x176001 x176002 x176003 x176004 x176005 x176006 x176007 x176008 x176009 x176010 x176011 x176012 x176013 x176014 x176015 x176016 x176017 x176018 x176019 x176020)) else ((sprlaw14_first.f k).bind fun t176 => (if t176 = true then (if (x175000 == x176000 && (x175001 == x176001 && (x175002 == x176002 && (x175003 == x176003 && (x175004 == x176004 && (x175005 == x176005 && (x175006 == x176006 && (x175007 == x176007 && (x175008 == x176008 && (x175009 == x176009 && (x175010 == x176010 && ((x175011 == x176011 && (x175012 == x176012)) && ((x175013 == x176013 && (x175014 == x176014)) && ((x175015 == x176015 && (x175016 == x176016)) && ((x175017 == x176017 && (x175018 == x176018)) && ((x175019 == x176019 && (x175020 == x176020)))))))))))))))))) = true then (if x8 = true then (some true) else ((cc_Parse.f k (([x7] : List ByteArray))).bind fun bt180 => ((cc_Parse.f k x0).bind fun bt201 => (some (bt180.1 == bt201.1 && (bt180.2.1 == bt201.2.1 && (bt180.2.2.1 == bt201.2.2.1 && (bt180.2.2.2.1 == bt201.2.2.2.1 && (bt180.2.2.2.2.1 == bt201.2.2.2.2.1 && (bt180.2.2.2.2.2.1 == bt201.2.2.2.2.2.1 && (bt180.2.2.2.2.2.2.1 == bt201.2.2.2.2.2.2.1 && (bt180.2.2.2.2.2.2.2.1 == bt201.2.2.2.2.2.2.2.1 && (bt180.2.2.2.2.2.2.2.2.1 == bt201.2.2.2.2.2.2.2.2.1 && (bt180.2.2.2.2.2.2.2.2.2.1 == bt201.2.2.2.2.2.2.2.2.2.1 && (bt180.2.2.2.2.2.2.2.2.2.2.1 == bt201.2.2.2.2.2.2.2.2.2.2.1 && ((bt180.2.2.2.2.2.2.2.2.2.2.2.1 == bt201.2.2.2.2.2.2.2.2.2.2.2.1 && (bt180.2.2.2.2.2.2.2.2.2.2.2.2.1 == bt201.2.2.2.2.2.2.2.2.2.2.2.2.1)) && ((bt180.2.2.2.2.2.2.2.2.2.2.2.2.2.1 == bt201.2.2.2.2.2.2.2.2.2.2.2.2.2.1 && (bt180.2.2.2.2.2.2.2.2.2.2.2.2.2.2.1 == bt201.2.2.2.2.2.2.2.2.2.2.2.2.2.2.1)) && ((bt180.2.2.2.2.2.2.2.2.2.2.2.2.2.2.2.1 == bt201.2.2.2.2.2.2.2.2.2.2.2.2.2.2.2.1 && (bt180.2.2.2.2.2.2.2.2.2.2.2.2.2.2.2.2.1 == bt201.2.2.2.2.2.2.2.2.2.2.2.2.2.2.2.2.1)) && ((bt180.2.2.2.2.2.2.2.2.2.2.2.2.2.2.2.2.2.1 == bt201.2.2.2.2.2.2.2.2.2.2.2.2.2.2.2.2.2.1 && (bt180.2.2.2.2.2.2.2.2.2.2.2.2.2.2.2.2.2.2.1 == bt201.2.2.2.2.2.2.2.2.2.2.2.2.2.2.2.2.2.2.1)) && ((bt180.2.2.2.2.2.2.2.2.2.2.2.2.2.2.2.2.2.2.2.1 == bt201.2.2.2.2.2.2.2.2.2.2.2.2.2.2.2.2.2.2.2.1 && (bt180.2.2.2.2.2.2.2.2.2.2.2.2.2.2.2.2.2.2.2.2 == bt201.2.2.2.2.2.2.2.2.2.2.2.2.2.2.2.2.2.2.2.2)))))))))))))))))))))) else (some false)) else (some false)))
def sprlaw14_CcTurns.j2 : Nat → List ByteArray → ByteArray → Bool → Int → Bool → Bool → Bool → Bool → Bool → Bool → Bool → Bool → Bool → Bool → Bool → Bool → Int → Bool → Int → Bool → Int → Bool → Int → Bool → Int → Bool → Bool → Bool → Bool → Bool → Bool → Bool → Bool → Bool → Bool → Bool → Bool → Int → Bool → Int → Bool → Int → Bool → Int → Bool → Int → Option (Bool)
  | 0, _, _, _, _, _, _, _, _, _, _, _, _, _, _, _, _, _, _, _, _, _, _, _, _, _, _, _, _, _, _, _, _, _, _, _, _, _, _, _, _, _, _, _, _, _, _ => none
  | k + 1, x0, x7, x8, x9, x175000, x175001, x175002, x175003, x175004, x175005, x175006, x175007, x175008, x175009, x175010, x175011, x175012, x175013, x175014, x175015, x175016, x175017, x175018, x175019, x175020, x176000, x176001, x176002, x176003, x176004, x176005, x176006, x176007, x176008, x176009, x176010, x176011, x176012, x176013, x176014, x176015, x176016, x176017, x176018, x176019, x176020 => if 0 ≤ x9 then (if x9 < (x0.length : Int) then (if x7.size + (rdOf ByteArray.empty x0 x9).size ≤ 9223372036854775807 then (sprlaw14_CcTurns.l1 k x0 (x7 ++ (rdOf ByteArray.empty x0 x9)) x8 x9 0 x175000 x175001 x175002 x175003 x175004 x175005 x175006 x175007 x175008 x175009 x175010 x175011 x175012 x175013 x175014 x175015 x175016 x175017 x175018 x175019 x175020 x176000 x176001 x176002 x176003 x176004 x176005 x176006 x176007 x176008 x176009 x176010 x176011 x176012 x176013 x176014 x176015 x176016 x176017 x176018 x176019 x176020) else (none)) else (none)) else (none)
def sprlaw14_CcTurns.l1 : Nat → List ByteArray → ByteArray → Bool → Int → Int → Bool → Bool → Bool → Bool → Bool → Bool → Bool → Bool → Bool → Bool → Bool → Bool → Int → Bool → Int → Bool → Int → Bool → Int → Bool → Int → Bool → Bool → Bool → Bool → Bool → Bool → Bool → Bool → Bool → Bool → Bool → Bool → Int → Bool → Int → Bool → Int → Bool → Int → Bool → Int → Option (Bool)
  | 0, _, _, _, _, _, _, _, _, _, _, _, _, _, _, _, _, _, _, _, _, _, _, _, _, _, _, _, _, _, _, _, _, _, _, _, _, _, _, _, _, _, _, _, _, _, _, _ => none
  | k + 1, x0, x7, x8, x9, x10, x175000, x175001, x175002, x175003, x175004, x175005, x175006, x175007, x175008, x175009, x175010, x175011, x175012, x175013, x175014, x175015, x175016, x175017, x175018, x175019, x175020, x176000, x176001, x176002, x176003, x176004, x176005, x176006, x176007, x176008, x176009, x176010, x176011, x176012, x176013, x176014, x176015, x176016, x176017, x176018, x176019, x176020 => if 0 ≤ x9 then (if x9 < (x0.length : Int) then (if x10 < ((rdOf ByteArray.empty x0 x9).size : Int) then (if x8 = true then (sprlaw14_CcTurns.l1 k x0 x7 true x9 (wrap64 (x10 + 1)) x175000 x175001 x175002 x175003 x175004 x175005 x175006 x175007 x175008 x175009 x175010 x175011 x175012 x175013 x175014 x175015 x175016 x175017 x175018 x175019 x175020 x176000 x176001 x176002 x176003 x176004 x176005 x176006 x176007 x176008 x176009 x176010 x176011 x176012 x176013 x176014 x176015 x176016 x176017 x176018 x176019 x176020) else (if 0 ≤ x10 then (sprlaw14_CcTurns.l1 k x0 x7 ((bt (rdOf ByteArray.empty x0 x9) x10) == 34) x9 (wrap64 (x10 + 1)) x175000 x175001 x175002 x175003 x175004 x175005 x175006 x175007 x175008 x175009 x175010 x175011 x175012 x175013 x175014 x175015 x175016 x175017 x175018 x175019 x175020 x176000 x176001 x176002 x176003 x176004 x176005 x176006 x176007 x176008 x176009 x176010 x176011 x176012 x176013 x176014 x176015 x176016 x176017 x176018 x176019 x176020) else (none))) else (sprlaw14_CcTurns.l0 k x0 x7 x8 (wrap64 (x9 + 1)) x175000 x175001 x175002 x175003 x175004 x175005 x175006 x175007 x175008 x175009 x175010 x175011 x175012 x175013 x175014 x175015 x175016 x175017 x175018 x175019 x175020 x176000 x176001 x176002 x176003 x176004 x176005 x176006 x176007 x176008 x176009 x176010 x176011 x176012 x176013 x176014 x176015 x176016 x176017 x176018 x176019 x176020)) else (none)) else (none)
end
def sprlaw14_CcTurns.f (k : Nat) (l0 : List ByteArray) (l1 : List ByteArray) : Option (Bool) := (sprlaw14_first.f k).bind fun t116 => (if t116 = true then ((sprlaw14_texts.f k l0).bind fun t117 => (if t117 = true then ((sprlaw14_texts.f k l1).bind fun t118 => (sprlaw14_CcTurns.j0 k l0 l1 (!t118))) else (sprlaw14_CcTurns.j0 k l0 l1 true))) else (some false))
theorem sprlaw14_CcTurns.mono_l : ∀ k, (∀ y0 y1 y2, LeO (sprlaw14_CcTurns.j0 k y0 y1 y2) (sprlaw14_CcTurns.j0 (k + 1) y0 y1 y2)) ∧ (∀ y0 y1 y2 y3 y4 y5 y6 y7 y8 y9 y10 y11 y12 y13 y14 y15 y16 y17 y18 y19 y20 y21 y22 y23 y24 y25 y26 y27 y28 y29 y30 y31 y32 y33 y34 y35 y36 y37 y38 y39 y40 y41 y42 y43 y44 y45, LeO (sprlaw14_CcTurns.l0 k y0 y1 y2 y3 y4 y5 y6 y7 y8 y9 y10 y11 y12 y13 y14 y15 y16 y17 y18 y19 y20 y21 y22 y23 y24 y25 y26 y27 y28 y29 y30 y31 y32 y33 y34 y35 y36 y37 y38 y39 y40 y41 y42 y43 y44 y45) (sprlaw14_CcTurns.l0 (k + 1) y0 y1 y2 y3 y4 y5 y6 y7 y8 y9 y10 y11 y12 y13 y14 y15 y16 y17 y18 y19 y20 y21 y22 y23 y24 y25 y26 y27 y28 y29 y30 y31 y32 y33 y34 y35 y36 y37 y38 y39 y40 y41 y42 y43 y44 y45)) ∧ (∀ y0 y1 y2 y3 y4 y5 y6 y7 y8 y9 y10 y11 y12 y13 y14 y15 y16 y17 y18 y19 y20 y21 y22 y23 y24 y25 y26 y27 y28 y29 y30 y31 y32 y33 y34 y35 y36 y37 y38 y39 y40 y41 y42 y43 y44 y45, LeO (sprlaw14_CcTurns.j2 k y0 y1 y2 y3 y4 y5 y6 y7 y8 y9 y10 y11 y12 y13 y14 y15 y16 y17 y18 y19 y20 y21 y22 y23 y24 y25 y26 y27 y28 y29 y30 y31 y32 y33 y34 y35 y36 y37 y38 y39 y40 y41 y42 y43 y44 y45) (sprlaw14_CcTurns.j2 (k + 1) y0 y1 y2 y3 y4 y5 y6 y7 y8 y9 y10 y11 y12 y13 y14 y15 y16 y17 y18 y19 y20 y21 y22 y23 y24 y25 y26 y27 y28 y29 y30 y31 y32 y33 y34 y35 y36 y37 y38 y39 y40 y41 y42 y43 y44 y45)) ∧ (∀ y0 y1 y2 y3 y4 y5 y6 y7 y8 y9 y10 y11 y12 y13 y14 y15 y16 y17 y18 y19 y20 y21 y22 y23 y24 y25 y26 y27 y28 y29 y30 y31 y32 y33 y34 y35 y36 y37 y38 y39 y40 y41 y42 y43 y44 y45 y46, LeO (sprlaw14_CcTurns.l1 k y0 y1 y2 y3 y4 y5 y6 y7 y8 y9 y10 y11 y12 y13 y14 y15 y16 y17 y18 y19 y20 y21 y22 y23 y24 y25 y26 y27 y28 y29 y30 y31 y32 y33 y34 y35 y36 y37 y38 y39 y40 y41 y42 y43 y44 y45 y46) (sprlaw14_CcTurns.l1 (k + 1) y0 y1 y2 y3 y4 y5 y6 y7 y8 y9 y10 y11 y12 y13 y14 y15 y16 y17 y18 y19 y20 y21 y22 y23 y24 y25 y26 y27 y28 y29 y30 y31 y32 y33 y34 y35 y36 y37 y38 y39 y40 y41 y42 y43 y44 y45 y46))
  | 0 => ⟨fun _ _ _ r h => by simp [sprlaw14_CcTurns.j0] at h, fun _ _ _ _ _ _ _ _ _ _ _ _ _ _ _ _ _ _ _ _ _ _ _ _ _ _ _ _ _ _ _ _ _ _ _ _ _ _ _ _ _ _ _ _ _ _ r h => by simp [sprlaw14_CcTurns.l0] at h, fun _ _ _ _ _ _ _ _ _ _ _ _ _ _ _ _ _ _ _ _ _ _ _ _ _ _ _ _ _ _ _ _ _ _ _ _ _ _ _ _ _ _ _ _ _ _ r h => by simp [sprlaw14_CcTurns.j2] at h, fun _ _ _ _ _ _ _ _ _ _ _ _ _ _ _ _ _ _ _ _ _ _ _ _ _ _ _ _ _ _ _ _ _ _ _ _ _ _ _ _ _ _ _ _ _ _ _ r h => by simp [sprlaw14_CcTurns.l1] at h⟩
  | k + 1 => by
    obtain ⟨ih0, ih1, ih2, ih3⟩ := sprlaw14_CcTurns.mono_l k
    refine ⟨?_, ?_, ?_, ?_⟩
    · intro y0 y1 y2
      unfold sprlaw14_CcTurns.j0
      repeat' first
      | (with_reducible exact ih0 _ _ _)
      | (with_reducible exact ih1 _ _ _ _ _ _ _ _ _ _ _ _ _ _ _ _ _ _ _ _ _ _ _ _ _ _ _ _ _ _ _ _ _ _ _ _ _ _ _ _ _ _ _ _ _ _)
      | (with_reducible exact ih2 _ _ _ _ _ _ _ _ _ _ _ _ _ _ _ _ _ _ _ _ _ _ _ _ _ _ _ _ _ _ _ _ _ _ _ _ _ _ _ _ _ _ _ _ _ _)
      | (with_reducible exact ih3 _ _ _ _ _ _ _ _ _ _ _ _ _ _ _ _ _ _ _ _ _ _ _ _ _ _ _ _ _ _ _ _ _ _ _ _ _ _ _ _ _ _ _ _ _ _ _)
      | (with_reducible exact cc_Parse.mono _ _)
      | (with_reducible exact sprlaw14_first.mono _)
      | (with_reducible exact sprlaw14_texts.mono _ _)
      | (with_reducible exact LeO.refl _)
      | (with_reducible exact LeO.none _)
      | (with_reducible refine LeO.ite ?_ ?_)
      | (with_reducible refine LeO.bind ?_ (fun _ => ?_))
      | exact ih0 _ _ _
      | exact ih1 _ _ _ _ _ _ _ _ _ _ _ _ _ _ _ _ _ _ _ _ _ _ _ _ _ _ _ _ _ _ _ _ _ _ _ _ _ _ _ _ _ _ _ _ _ _
      | exact ih2 _ _ _ _ _ _ _ _ _ _ _ _ _ _ _ _ _ _ _ _ _ _ _ _ _ _ _ _ _ _ _ _ _ _ _ _ _ _ _ _ _ _ _ _ _ _
      | exact ih3 _ _ _ _ _ _ _ _ _ _ _ _ _ _ _ _ _ _ _ _ _ _ _ _ _ _ _ _ _ _ _ _ _ _ _ _ _ _ _ _ _ _ _ _ _ _ _
      | exact cc_Parse.mono _ _
      | exact sprlaw14_first.mono _
      | exact sprlaw14_texts.mono _ _
      | exact LeO.none _
      | refine LeO.ite ?_ ?_
      | refine LeO.bind ?_ (fun _ => ?_)
    · intro y0 y1 y2 y3 y4 y5 y6 y7 y8 y9 y10 y11 y12 y13 y14 y15 y16 y17 y18 y19 y20 y21 y22 y23 y24 y25 y26 y27 y28 y29 y30 y31 y32 y33 y34 y35 y36 y37 y38 y39 y40 y41 y42 y43 y44 y45
      unfold sprlaw14_CcTurns.l0
      repeat' first
      | (with_reducible exact ih0 _ _ _)
      | (with_reducible exact ih1 _ _ _ _ _ _ _ _ _ _ _ _ _ _ _ _ _ _ _ _ _ _ _ _ _ _ _ _ _ _ _ _ _ _ _ _ _ _ _ _ _ _ _ _ _ _)
      | (with_reducible exact ih2 _ _ _ _ _ _ _ _ _ _ _ _ _ _ _ _ _ _ _ _ _ _ _ _ _ _ _ _ _ _ _ _ _ _ _ _ _ _ _ _ _ _ _ _ _ _)
      | (with_reducible exact ih3 _ _ _ _ _ _ _ _ _ _ _ _ _ _ _ _ _ _ _ _ _ _ _ _ _ _ _ _ _ _ _ _ _ _ _ _ _ _ _ _ _ _ _ _ _ _ _)
      | (with_reducible exact cc_Parse.mono _ _)
      | (with_reducible exact sprlaw14_first.mono _)
      | (with_reducible exact sprlaw14_texts.mono _ _)
      | (with_reducible exact LeO.refl _)
      | (with_reducible exact LeO.none _)
      | (with_reducible refine LeO.ite ?_ ?_)
      | (with_reducible refine LeO.bind ?_ (fun _ => ?_))
      | exact ih0 _ _ _
      | exact ih1 _ _ _ _ _ _ _ _ _ _ _ _ _ _ _ _ _ _ _ _ _ _ _ _ _ _ _ _ _ _ _ _ _ _ _ _ _ _ _ _ _ _ _ _ _ _
      | exact ih2 _ _ _ _ _ _ _ _ _ _ _ _ _ _ _ _ _ _ _ _ _ _ _ _ _ _ _ _ _ _ _ _ _ _ _ _ _ _ _ _ _ _ _ _ _ _
      | exact ih3 _ _ _ _ _ _ _ _ _ _ _ _ _ _ _ _ _ _ _ _ _ _ _ _ _ _ _ _ _ _ _ _ _ _ _ _ _ _ _ _ _ _ _ _ _ _ _
      | exact cc_Parse.mono _ _
      | exact sprlaw14_first.mono _
      | exact sprlaw14_texts.mono _ _
      | exact LeO.none _
      | refine LeO.ite ?_ ?_
      | refine LeO.bind ?_ (fun _ => ?_)
    · intro y0 y1 y2 y3 y4 y5 y6 y7 y8 y9 y10 y11 y12 y13 y14 y15 y16 y17 y18 y19 y20 y21 y22 y23 y24 y25 y26 y27 y28 y29 y30 y31 y32 y33 y34 y35 y36 y37 y38 y39 y40 y41 y42 y43 y44 y45
      unfold sprlaw14_CcTurns.j2
      repeat' first
      | (with_reducible exact ih0 _ _ _)
      | (with_reducible exact ih1 _ _ _ _ _ _ _ _ _ _ _ _ _ _ _ _ _ _ _ _ _ _ _ _ _ _ _ _ _ _ _ _ _ _ _ _ _ _ _ _ _ _ _ _ _ _)
      | (with_reducible exact ih2 _ _ _ _ _ _ _ _ _ _ _ _ _ _ _ _ _ _ _ _ _ _ _ _ _ _ _ _ _ _ _ _ _ _ _ _ _ _ _ _ _ _ _ _ _ _)
      | (with_reducible exact ih3 _ _ _ _ _ _ _ _ _ _ _ _ _ _ _ _ _ _ _ _ _ _ _ _ _ _ _ _ _ _ _ _ _ _ _ _ _ _ _ _ _ _ _ _ _ _ _)
      | (with_reducible exact cc_Parse.mono _ _)
      | (with_reducible exact sprlaw14_first.mono _)
      | (with_reducible exact sprlaw14_texts.mono _ _)
      | (with_reducible exact LeO.refl _)
      | (with_reducible exact LeO.none _)
      | (with_reducible refine LeO.ite ?_ ?_)
      | (with_reducible refine LeO.bind ?_ (fun _ => ?_))
      | exact ih0 _ _ _
      | exact ih1 _ _ _ _ _ _ _ _ _ _ _ _ _ _ _ _ _ _ _ _ _ _ _ _ _ _ _ _ _ _ _ _ _ _ _ _ _ _ _ _ _ _ _ _ _ _
      | exact ih2 _ _ _ _ _ _ _ _ _ _ _ _ _ _ _ _ _ _ _ _ _ _ _ _ _ _ _ _ _ _ _ _ _ _ _ _ _ _ _ _ _ _ _ _ _ _
      | exact ih3 _ _ _ _ _ _ _ _ _ _ _ _ _ _ _ _ _ _ _ _ _ _ _ _ _ _ _ _ _ _ _ _ _ _ _ _ _ _ _ _ _ _ _ _ _ _ _
      | exact cc_Parse.mono _ _
      | exact sprlaw14_first.mono _
      | exact sprlaw14_texts.mono _ _
      | exact LeO.none _
      | refine LeO.ite ?_ ?_
      | refine LeO.bind ?_ (fun _ => ?_)
    · intro y0 y1 y2 y3 y4 y5 y6 y7 y8 y9 y10 y11 y12 y13 y14 y15 y16 y17 y18 y19 y20 y21 y22 y23 y24 y25 y26 y27 y28 y29 y30 y31 y32 y33 y34 y35 y36 y37 y38 y39 y40 y41 y42 y43 y44 y45 y46
      unfold sprlaw14_CcTurns.l1
      repeat' first
      | (with_reducible exact ih0 _ _ _)
      | (with_reducible exact ih1 _ _ _ _ _ _ _ _ _ _ _ _ _ _ _ _ _ _ _ _ _ _ _ _ _ _ _ _ _ _ _ _ _ _ _ _ _ _ _ _ _ _ _ _ _ _)
      | (with_reducible exact ih2 _ _ _ _ _ _ _ _ _ _ _ _ _ _ _ _ _ _ _ _ _ _ _ _ _ _ _ _ _ _ _ _ _ _ _ _ _ _ _ _ _ _ _ _ _ _)
      | (with_reducible exact ih3 _ _ _ _ _ _ _ _ _ _ _ _ _ _ _ _ _ _ _ _ _ _ _ _ _ _ _ _ _ _ _ _ _ _ _ _ _ _ _ _ _ _ _ _ _ _ _)
      | (with_reducible exact cc_Parse.mono _ _)
      | (with_reducible exact sprlaw14_first.mono _)
      | (with_reducible exact sprlaw14_texts.mono _ _)
      | (with_reducible exact LeO.refl _)
      | (with_reducible exact LeO.none _)
      | (with_reducible refine LeO.ite ?_ ?_)
      | (with_reducible refine LeO.bind ?_ (fun _ => ?_))
      | exact ih0 _ _ _
      | exact ih1 _ _ _ _ _ _ _ _ _ _ _ _ _ _ _ _ _ _ _ _ _ _ _ _ _ _ _ _ _ _ _ _ _ _ _ _ _ _ _ _ _ _ _ _ _ _
      | exact ih2 _ _ _ _ _ _ _ _ _ _ _ _ _ _ _ _ _ _ _ _ _ _ _ _ _ _ _ _ _ _ _ _ _ _ _ _ _ _ _ _ _ _ _ _ _ _
      | exact ih3 _ _ _ _ _ _ _ _ _ _ _ _ _ _ _ _ _ _ _ _ _ _ _ _ _ _ _ _ _ _ _ _ _ _ _ _ _ _ _ _ _ _ _ _ _ _ _
      | exact cc_Parse.mono _ _
      | exact sprlaw14_first.mono _
      | exact sprlaw14_texts.mono _ _
      | exact LeO.none _
      | refine LeO.ite ?_ ?_
      | refine LeO.bind ?_ (fun _ => ?_)
theorem sprlaw14_CcTurns.mono : ∀ a0 a1 k, LeO (sprlaw14_CcTurns.f k a0 a1) (sprlaw14_CcTurns.f (k + 1) a0 a1) := by
  intro a0 a1 k
  obtain ⟨ih0, ih1, ih2, ih3⟩ := sprlaw14_CcTurns.mono_l k
  unfold sprlaw14_CcTurns.f
  repeat' first
      | (with_reducible exact ih0 _ _ _)
      | (with_reducible exact ih1 _ _ _ _ _ _ _ _ _ _ _ _ _ _ _ _ _ _ _ _ _ _ _ _ _ _ _ _ _ _ _ _ _ _ _ _ _ _ _ _ _ _ _ _ _ _)
      | (with_reducible exact ih2 _ _ _ _ _ _ _ _ _ _ _ _ _ _ _ _ _ _ _ _ _ _ _ _ _ _ _ _ _ _ _ _ _ _ _ _ _ _ _ _ _ _ _ _ _ _)
      | (with_reducible exact ih3 _ _ _ _ _ _ _ _ _ _ _ _ _ _ _ _ _ _ _ _ _ _ _ _ _ _ _ _ _ _ _ _ _ _ _ _ _ _ _ _ _ _ _ _ _ _ _)
      | (with_reducible exact cc_Parse.mono _ _)
      | (with_reducible exact sprlaw14_first.mono _)
      | (with_reducible exact sprlaw14_texts.mono _ _)
      | (with_reducible exact LeO.refl _)
      | (with_reducible exact LeO.none _)
      | (with_reducible refine LeO.ite ?_ ?_)
      | (with_reducible refine LeO.bind ?_ (fun _ => ?_))
      | exact ih0 _ _ _
      | exact ih1 _ _ _ _ _ _ _ _ _ _ _ _ _ _ _ _ _ _ _ _ _ _ _ _ _ _ _ _ _ _ _ _ _ _ _ _ _ _ _ _ _ _ _ _ _ _
      | exact ih2 _ _ _ _ _ _ _ _ _ _ _ _ _ _ _ _ _ _ _ _ _ _ _ _ _ _ _ _ _ _ _ _ _ _ _ _ _ _ _ _ _ _ _ _ _ _
      | exact ih3 _ _ _ _ _ _ _ _ _ _ _ _ _ _ _ _ _ _ _ _ _ _ _ _ _ _ _ _ _ _ _ _ _ _ _ _ _ _ _ _ _ _ _ _ _ _ _
      | exact cc_Parse.mono _ _
      | exact sprlaw14_first.mono _
      | exact sprlaw14_texts.mono _ _
      | exact LeO.none _
      | refine LeO.ite ?_ ?_
      | refine LeO.bind ?_ (fun _ => ?_)
set_option maxHeartbeats 8000000 in
set_option maxRecDepth 100000 in
theorem sprlaw14_CcTurns.calls (k : Nat) (A0 : Option Addr) (c0 : Nat) (l0 : List ByteArray) (A1 : Option Addr) (c1 : Nat) (l1 : List ByteArray) (r : Bool) (w : World) (hr0 : Kd.C Kd.string w A0 l0.length l0) (hc0 : l0.length ≤ c0) (hr1 : Kd.C Kd.string w A1 l1.length l1) (hc1 : l1.length ≤ c1) (h : sprlaw14_CcTurns.f k l0 l1 = some r) (hT : Aside0 (r = true)) :
    Calls Tryd.prog 5 #[.slice A0 l0.length c0, .slice A1 l1.length c1] w fun e w' => e = .returned (.bool r) ∧ Below w.heap.size w w' := by
  have hu35 := Tryd.underlying35
  have HR0 := Aside0.mk hr0
  have HC0 := Aside0.mk hc0
  clear hr0 hc0
  have HR1 := Aside0.mk hr1
  have HC1 := Aside0.mk hc1
  clear hr1 hc1
  have HB := Aside0.mk (Below.refl w.heap.size w)
  have H : ((sprlaw14_first.f k).bind fun t116 => (if t116 = true then ((sprlaw14_texts.f k l0).bind fun t117 => (if t117 = true then ((sprlaw14_texts.f k l1).bind fun t118 => (sprlaw14_CcTurns.j0 k l0 l1 (!t118))) else (sprlaw14_CcTurns.j0 k l0 l1 true))) else (some false))) = some r := h
  clear h
  replace H := Option.bind_eq_some_iff.mp H
  obtain ⟨t116, A30, H⟩ := H
  replace H : (if t116 = true then ((sprlaw14_texts.f k l0).bind fun t117 => (if t117 = true then ((sprlaw14_texts.f k l1).bind fun t118 => (sprlaw14_CcTurns.j0 k l0 l1 (!t118))) else (sprlaw14_CcTurns.j0 k l0 l1 true))) else (some false)) = some r := H
  have A3 := Aside0.mk A30
  clear A30
  by_cases c4 : t116 = true
  · subst c4
    have H1 : ((sprlaw14_texts.f k l0).bind fun t117 => (if t117 = true then ((sprlaw14_texts.f k l1).bind fun t118 => (sprlaw14_CcTurns.j0 k l0 l1 (!t118))) else (sprlaw14_CcTurns.j0 k l0 l1 true))) = some r := by rw [if_pos rfl] at H; exact H
    clear H
    have H := H1
    clear H1
    have HC5 := Aside0.mk H
    clear H
    go_enter Tryd.func5, Tryd.ntmps5
    go_upto_region 3 with (first | ((with_reducible refine gate_callee (f := 8) rfl ?_); refine goesL_ (some 11) rfl rfl Tryd.func8 (by kernel_rfl) rfl #[] rfl (by (try simp only [List.map_toArray, List.map_cons, List.map_nil]); first | done | rfl | (simp only [List.length_drop, List.length_take]; rfl)) ?_; (with_reducible refine (sprlaw14_first.calls k  true _ A3.out).mono ?_); rintro e w6 ⟨rfl, hb⟩; refine ⟨_, rfl, ?_⟩; have n0_ := Aside0.mk (below_step (by repeat (first | (with_reducible first | exact HB.out | apply below_alloc | apply pw_below_drewN | apply below_drew1) | exact HB.out)) hb); clear HB; have HB := n0_; clear n0_; (try clear hb); (try clear hb2); (try clear hk); (try clear hi)))
    (try simp only [Act.put, List.setIfInBounds_toArray, List.set_cons_zero, List.set_cons_succ])
    go_cut [20] (fun v20 wc => ∃ (kq : Nat) (x20_4 : Bool), v20 = .bool x20_4 ∧ Aside0 (sprlaw14_CcTurns.j0 kq l0 l1 x20_4 = some r) ∧ Aside0 (kq ≤ k) ∧ Aside0 (Below w.heap.size w wc))
    case first =>
      have H := HC5.out
      clear HC5
      replace H := Option.bind_eq_some_iff.mp H
      obtain ⟨t117, A70, H⟩ := H
      replace H : (if t117 = true then ((sprlaw14_texts.f k l1).bind fun t118 => (sprlaw14_CcTurns.j0 k l0 l1 (!t118))) else (sprlaw14_CcTurns.j0 k l0 l1 true)) = some r := H
      have A7 := Aside0.mk A70
      clear A70
      by_cases c8 : t117 = true
      · subst c8
        have H1 : ((sprlaw14_texts.f k l1).bind fun t118 => (sprlaw14_CcTurns.j0 k l0 l1 (!t118))) = some r := by rw [if_pos rfl] at H; exact H
        clear H
        have H := H1
        clear H1
        replace H := Option.bind_eq_some_iff.mp H
        obtain ⟨t118, A90, H⟩ := H
        replace H : (sprlaw14_CcTurns.j0 k l0 l1 (!t118)) = some r := H
        have A9 := Aside0.mk A90
        clear A90
        have H' := Aside0.mk H
        clear H
        go_wp2_with (first | ((with_reducible refine gate_callee (f := 9) rfl ?_); refine goesL_ (some 14) rfl rfl Tryd.func9 (by kernel_rfl) rfl #[.slice A0 l0.length c0] rfl (by (try simp only [List.map_toArray, List.map_cons, List.map_nil]); first | done | rfl | (simp only [List.length_drop, List.length_take]; rfl)) ?_; (with_reducible refine (sprlaw14_texts.calls k _ _ l0 true _ ?side1 ?side2 A7.out).mono ?_); (case side1 => repeat (first | exact (Kd.C_below HR0.out HB.out) | (with_reducible refine Kd.C_alloc ?_ _) | (with_reducible refine Kd.C_drewN ?_ _) | (with_reducible refine Kd.C_drew ?_))); (case side2 => exact HC0.out); rintro e w10 ⟨rfl, hb⟩; refine ⟨_, rfl, ?_⟩; have n0_ := Aside0.mk (below_step (by repeat (first | (with_reducible first | exact HB.out | apply below_alloc | apply pw_below_drewN | apply below_drew1) | exact HB.out)) hb); clear HB; have HB := n0_; clear n0_; (try clear hb); (try clear hb2); (try clear hk); (try clear hi)) | (go_at_call 9; (with_reducible refine (sprlaw14_texts.calls k _ _ l1 t118 _ ?side1 ?side2 A9.out).mono ?_); (case side1 => repeat (first | exact (Kd.C_below HR1.out HB.out) | (with_reducible refine Kd.C_alloc ?_ _) | (with_reducible refine Kd.C_drewN ?_ _) | (with_reducible refine Kd.C_drew ?_))); (case side2 => exact HC1.out); rintro e w11 ⟨rfl, hb⟩; have n0_ := Aside0.mk (below_step (by repeat (first | (with_reducible first | exact HB.out | apply below_alloc | apply pw_below_drewN | apply below_drew1) | exact HB.out)) hb); clear HB; have HB := n0_; clear n0_; (try clear hb); (try clear hb2); (try clear hk); (try clear hi)))
        go_meet
        case rel => exact ⟨_, (!t118), (by first | rfl | (simp; done) | (simp [*]; done)), H', ⟨by first | omega | exact Nat.le_refl _⟩, ⟨by repeat (first | (with_reducible first | exact HB.out | apply below_alloc | apply pw_below_drewN | apply below_drew1) | exact HB.out)⟩⟩
      · replace c8 := Bool.eq_false_iff.mpr c8
        subst c8
        have H1 : (sprlaw14_CcTurns.j0 k l0 l1 true) = some r := by rw [if_neg (show ¬ (false = true) by decide)] at H; exact H
        clear H
        have H := H1
        clear H1
        have H' := Aside0.mk H
        clear H
        go_wp2_with (first | ((with_reducible refine gate_callee (f := 9) rfl ?_); refine goesL_ (some 14) rfl rfl Tryd.func9 (by kernel_rfl) rfl #[.slice A0 l0.length c0] rfl (by (try simp only [List.map_toArray, List.map_cons, List.map_nil]); first | done | rfl | (simp only [List.length_drop, List.length_take]; rfl)) ?_; (with_reducible refine (sprlaw14_texts.calls k _ _ l0 false _ ?side1 ?side2 A7.out).mono ?_); (case side1 => repeat (first | exact (Kd.C_below HR0.out HB.out) | (with_reducible refine Kd.C_alloc ?_ _) | (with_reducible refine Kd.C_drewN ?_ _) | (with_reducible refine Kd.C_drew ?_))); (case side2 => exact HC0.out); rintro e w12 ⟨rfl, hb⟩; refine ⟨_, rfl, ?_⟩; have n0_ := Aside0.mk (below_step (by repeat (first | (with_reducible first | exact HB.out | apply below_alloc | apply pw_below_drewN | apply below_drew1) | exact HB.out)) hb); clear HB; have HB := n0_; clear n0_; (try clear hb); (try clear hb2); (try clear hk); (try clear hi)))
        go_meet
        case rel => exact ⟨_, (true), (by first | rfl | (simp; done) | (simp [*]; done)), H', ⟨by first | omega | exact Nat.le_refl _⟩, ⟨by repeat (first | (with_reducible first | exact HB.out | apply below_alloc | apply pw_below_drewN | apply below_drew1) | exact HB.out)⟩⟩
    case rest =>
      clear HC5
      try clear c1
      try clear p2
      try clear c4
      try clear c5
      try clear c8
      try clear c9
      obtain ⟨kq, x20_4, rfl, HA, HJ4, HB⟩ := hcut
      cases kq with
      | zero => exact absurd HA.out (by simp [sprlaw14_CcTurns.j0])
      | succ kj4 =>
        have H := HA.out
        clear HA
        simp only [sprlaw14_CcTurns.j0] at H
        by_cases c13 : x20_4 = true
        · subst c13
          have H1 : ((sprlaw14_first.f kj4).bind fun t119 => (some t119)) = some r := by rw [if_pos rfl] at H; exact H
          clear H
          have H := H1
          clear H1
          replace H := Option.bind_eq_some_iff.mp H
          obtain ⟨t119, A140, H⟩ := H
          replace H : (some t119) = some r := H
          have A14 := Aside0.mk A140
          clear A140
          obtain rfl := Option.some.inj H
          go_wp2_with (first | ((with_reducible refine gate_callee (f := 8) rfl ?_); refine goesL_ (some 21) rfl rfl Tryd.func8 (by kernel_rfl) rfl #[] rfl (by (try simp only [List.map_toArray, List.map_cons, List.map_nil]); first | done | rfl | (simp only [List.length_drop, List.length_take]; rfl)) ?_; (with_reducible refine (sprlaw14_first.calls kj4  t119 _ A14.out).mono ?_); rintro e w15 ⟨rfl, hb⟩; refine ⟨_, rfl, ?_⟩; have n0_ := Aside0.mk (below_step (by repeat (first | (with_reducible first | exact HB.out | apply below_alloc | apply pw_below_drewN | apply below_drew1) | exact HB.out)) hb); clear HB; have HB := n0_; clear n0_; (try clear hb); (try clear hb2); (try clear hk); (try clear hi)))
          go_ret
          exact ⟨by first | rfl | (simp [errW_none, errW_some] <;> rfl) | (simp [*, errW_none, errW_some] <;> rfl), by repeat (first | (with_reducible first | exact HB.out | apply below_alloc | apply pw_below_drewN | apply below_drew1) | exact HB.out)⟩
        · replace c13 := Bool.eq_false_iff.mpr c13
          subst c13
          have H1 : ((sprref_CopyTexts.f l0).bind fun t120 => (if t120.length + l1.length < 8796093022208 then ((cc_Parse.f kj4 (t120 ++ l1)).bind fun bt126 => ((sprref_CopyTexts.f l1).bind fun t147 => (if t147.length + l0.length < 8796093022208 then ((cc_Parse.f kj4 (t147 ++ l0)).bind fun bt153 => (sprlaw14_CcTurns.l0 kj4 l0 (⟨#[]⟩ : ByteArray) false 0 bt126.1 bt126.2.1 bt126.2.2.1 bt126.2.2.2.1 bt126.2.2.2.2.1 bt126.2.2.2.2.2.1 bt126.2.2.2.2.2.2.1 bt126.2.2.2.2.2.2.2.1 bt126.2.2.2.2.2.2.2.2.1 bt126.2.2.2.2.2.2.2.2.2.1 bt126.2.2.2.2.2.2.2.2.2.2.1 bt126.2.2.2.2.2.2.2.2.2.2.2.1 bt126.2.2.2.2.2.2.2.2.2.2.2.2.1 bt126.2.2.2.2.2.2.2.2.2.2.2.2.2.1 bt126.2.2.2.2.2.2.2.2.2.2.2.2.2.2.1 bt126.2.2.2.2.2.2.2.2.2.2.2.2.2.2.2.1 bt126.2.2.2.2.2.2.2.2.2.2.2.2.2.2.2.2.1 bt126.2.2.2.2.2.2.2.2.2.2.2.2.2.2.2.2.2.1 bt126.2.2.2.2.2.2.2.2.2.2.2.2.2.2.2.2.2.2.1 bt126.2.2.2.2.2.2.2.2.2.2.2.2.2.2.2.2.2.2.2.1 bt126.2.2.2.2.2.2.2.2.2.2.2.2.2.2.2.2.2.2.2.2 bt153.1 bt153.2.1 bt153.2.2.1 bt153.2.2.2.1 bt153.2.2.2.2.1 bt153.2.2.2.2.2.1 bt153.2.2.2.2.2.2.1 bt153.2.2.2.2.2.2.2.1 bt153.2.2.2.2.2.2.2.2.1 bt153.2.2.2.2.2.2.2.2.2.1 bt153.2.2.2.2.2.2.2.2.2.2.1 bt153.2.2.2.2.2.2.2.2.2.2.2.1 bt153.2.2.2.2.2.2.2.2.2.2.2.2.1 bt153.2.2.2.2.2.2.2.2.2.2.2.2.2.1 bt153.2.2.2.2.2.2.2.2.2.2.2.2.2.2.1 bt153.2.2.2.2.2.2.2.2.2.2.2.2.2.2.2.1 bt153.2.2.2.2.2.2.2.2.2.2.2.2.2.2.2.2.1 bt153.2.2.2.2.2.2.2.2.2.2.2.2.2.2.2.2.2.1 bt153.2.2.2.2.2.2.2.2.2.2.2.2.2.2.2.2.2.2.1 bt153.2.2.2.2.2.2.2.2.2.2.2.2.2.2.2.2.2.2.2.1 bt153.2.2.2.2.2.2.2.2.2.2.2.2.2.2.2.2.2.2.2.2)) else (none)))) else (none))) = some r := by rw [if_neg (show ¬ (false = true) by decide)] at H; exact H
          clear H
          have H := H1
          clear H1
          replace H := Option.bind_eq_some_iff.mp H
          obtain ⟨t120, A160, H⟩ := H
          replace H : (if t120.length + l1.length < 8796093022208 then ((cc_Parse.f kj4 (t120 ++ l1)).bind fun bt126 => ((sprref_CopyTexts.f l1).bind fun t147 => (if t147.length + l0.length < 8796093022208 then ((cc_Parse.f kj4 (t147 ++ l0)).bind fun bt153 => (sprlaw14_CcTurns.l0 kj4 l0 (⟨#[]⟩ : ByteArray) false 0 bt126.1 bt126.2.1 bt126.2.2.1 bt126.2.2.2.1 bt126.2.2.2.2.1 bt126.2.2.2.2.2.1 bt126.2.2.2.2.2.2.1 bt126.2.2.2.2.2.2.2.1 bt126.2.2.2.2.2.2.2.2.1 bt126.2.2.2.2.2.2.2.2.2.1 bt126.2.2.2.2.2.2.2.2.2.2.1 bt126.2.2.2.2.2.2.2.2.2.2.2.1 bt126.2.2.2.2.2.2.2.2.2.2.2.2.1 bt126.2.2.2.2.2.2.2.2.2.2.2.2.2.1 bt126.2.2.2.2.2.2.2.2.2.2.2.2.2.2.1 bt126.2.2.2.2.2.2.2.2.2.2.2.2.2.2.2.1 bt126.2.2.2.2.2.2.2.2.2.2.2.2.2.2.2.2.1 bt126.2.2.2.2.2.2.2.2.2.2.2.2.2.2.2.2.2.1 bt126.2.2.2.2.2.2.2.2.2.2.2.2.2.2.2.2.2.2.1 bt126.2.2.2.2.2.2.2.2.2.2.2.2.2.2.2.2.2.2.2.1 bt126.2.2.2.2.2.2.2.2.2.2.2.2.2.2.2.2.2.2.2.2 bt153.1 bt153.2.1 bt153.2.2.1 bt153.2.2.2.1 bt153.2.2.2.2.1 bt153.2.2.2.2.2.1 bt153.2.2.2.2.2.2.1 bt153.2.2.2.2.2.2.2.1 bt153.2.2.2.2.2.2.2.2.1 bt153.2.2.2.2.2.2.2.2.2.1 bt153.2.2.2.2.2.2.2.2.2.2.1 bt153.2.2.2.2.2.2.2.2.2.2.2.1 bt153.2.2.2.2.2.2.2.2.2.2.2.2.1 bt153.2.2.2.2.2.2.2.2.2.2.2.2.2.1 bt153.2.2.2.2.2.2.2.2.2.2.2.2.2.2.1 bt153.2.2.2.2.2.2.2.2.2.2.2.2.2.2.2.1 bt153.2.2.2.2.2.2.2.2.2.2.2.2.2.2.2.2.1 bt153.2.2.2.2.2.2.2.2.2.2.2.2.2.2.2.2.2.1 bt153.2.2.2.2.2.2.2.2.2.2.2.2.2.2.2.2.2.2.1 bt153.2.2.2.2.2.2.2.2.2.2.2.2.2.2.2.2.2.2.2.1 bt153.2.2.2.2.2.2.2.2.2.2.2.2.2.2.2.2.2.2.2.2)) else (none)))) else (none)) = some r := H
          have A16 := Aside0.mk A160
          clear A160
          by_cases c17 : t120.length + l1.length < 8796093022208
          · rw [if_pos c17] at H
            have LMc17 := Aside0.mk c17
            clear c17
            obtain ⟨y123, hy123⟩ : ∃ y_ : List ByteArray, y_ = (t120 ++ l1) := ⟨_, rfl⟩
            replace H : ((cc_Parse.f kj4 y123).bind fun bt126 => ((sprref_CopyTexts.f l1).bind fun t147 => (if t147.length + l0.length < 8796093022208 then ((cc_Parse.f kj4 (t147 ++ l0)).bind fun bt153 => (sprlaw14_CcTurns.l0 kj4 l0 (⟨#[]⟩ : ByteArray) false 0 bt126.1 bt126.2.1 bt126.2.2.1 bt126.2.2.2.1 bt126.2.2.2.2.1 bt126.2.2.2.2.2.1 bt126.2.2.2.2.2.2.1 bt126.2.2.2.2.2.2.2.1 bt126.2.2.2.2.2.2.2.2.1 bt126.2.2.2.2.2.2.2.2.2.1 bt126.2.2.2.2.2.2.2.2.2.2.1 bt126.2.2.2.2.2.2.2.2.2.2.2.1 bt126.2.2.2.2.2.2.2.2.2.2.2.2.1 bt126.2.2.2.2.2.2.2.2.2.2.2.2.2.1 bt126.2.2.2.2.2.2.2.2.2.2.2.2.2.2.1 bt126.2.2.2.2.2.2.2.2.2.2.2.2.2.2.2.1 bt126.2.2.2.2.2.2.2.2.2.2.2.2.2.2.2.2.1 bt126.2.2.2.2.2.2.2.2.2.2.2.2.2.2.2.2.2.1 bt126.2.2.2.2.2.2.2.2.2.2.2.2.2.2.2.2.2.2.1 bt126.2.2.2.2.2.2.2.2.2.2.2.2.2.2.2.2.2.2.2.1 bt126.2.2.2.2.2.2.2.2.2.2.2.2.2.2.2.2.2.2.2.2 bt153.1 bt153.2.1 bt153.2.2.1 bt153.2.2.2.1 bt153.2.2.2.2.1 bt153.2.2.2.2.2.1 bt153.2.2.2.2.2.2.1 bt153.2.2.2.2.2.2.2.1 bt153.2.2.2.2.2.2.2.2.1 bt153.2.2.2.2.2.2.2.2.2.1 bt153.2.2.2.2.2.2.2.2.2.2.1 bt153.2.2.2.2.2.2.2.2.2.2.2.1 bt153.2.2.2.2.2.2.2.2.2.2.2.2.1 bt153.2.2.2.2.2.2.2.2.2.2.2.2.2.1 bt153.2.2.2.2.2.2.2.2.2.2.2.2.2.2.1 bt153.2.2.2.2.2.2.2.2.2.2.2.2.2.2.2.1 bt153.2.2.2.2.2.2.2.2.2.2.2.2.2.2.2.2.1 bt153.2.2.2.2.2.2.2.2.2.2.2.2.2.2.2.2.2.1 bt153.2.2.2.2.2.2.2.2.2.2.2.2.2.2.2.2.2.2.1 bt153.2.2.2.2.2.2.2.2.2.2.2.2.2.2.2.2.2.2.2.1 bt153.2.2.2.2.2.2.2.2.2.2.2.2.2.2.2.2.2.2.2.2)) else (none)))) = some r := by first | (rw [hy123]; with_reducible exact H) | (have H2_ := (Option.bind_some _ _).symm.trans H; rw [hy123]; with_reducible exact H2_) | (have H2_ := (Option.bind_some _ _).symm.trans H; with_reducible exact H2_) | with_reducible exact H | (rw [hy123]; exact H) | exact H
            have Ny123 := Aside0.mk hy123
            clear hy123
            replace H := Option.bind_eq_some_iff.mp H
            obtain ⟨⟨t126, t127, t128, t129, t130, t131, t132, t133, t134, t135, t136, t137, t138, t139, t140, t141, t142, t143, t144, t145, t146⟩, A180, H⟩ := H
            replace H : ((sprref_CopyTexts.f l1).bind fun t147 => (if t147.length + l0.length < 8796093022208 then ((cc_Parse.f kj4 (t147 ++ l0)).bind fun bt153 => (sprlaw14_CcTurns.l0 kj4 l0 (⟨#[]⟩ : ByteArray) false 0 t126 t127 t128 t129 t130 t131 t132 t133 t134 t135 t136 t137 t138 t139 t140 t141 t142 t143 t144 t145 t146 bt153.1 bt153.2.1 bt153.2.2.1 bt153.2.2.2.1 bt153.2.2.2.2.1 bt153.2.2.2.2.2.1 bt153.2.2.2.2.2.2.1 bt153.2.2.2.2.2.2.2.1 bt153.2.2.2.2.2.2.2.2.1 bt153.2.2.2.2.2.2.2.2.2.1 bt153.2.2.2.2.2.2.2.2.2.2.1 bt153.2.2.2.2.2.2.2.2.2.2.2.1 bt153.2.2.2.2.2.2.2.2.2.2.2.2.1 bt153.2.2.2.2.2.2.2.2.2.2.2.2.2.1 bt153.2.2.2.2.2.2.2.2.2.2.2.2.2.2.1 bt153.2.2.2.2.2.2.2.2.2.2.2.2.2.2.2.1 bt153.2.2.2.2.2.2.2.2.2.2.2.2.2.2.2.2.1 bt153.2.2.2.2.2.2.2.2.2.2.2.2.2.2.2.2.2.1 bt153.2.2.2.2.2.2.2.2.2.2.2.2.2.2.2.2.2.2.1 bt153.2.2.2.2.2.2.2.2.2.2.2.2.2.2.2.2.2.2.2.1 bt153.2.2.2.2.2.2.2.2.2.2.2.2.2.2.2.2.2.2.2.2)) else (none))) = some r := H
            have A18 := Aside0.mk A180
            clear A180
            replace H := Option.bind_eq_some_iff.mp H
            obtain ⟨t147, A190, H⟩ := H
            replace H : (if t147.length + l0.length < 8796093022208 then ((cc_Parse.f kj4 (t147 ++ l0)).bind fun bt153 => (sprlaw14_CcTurns.l0 kj4 l0 (⟨#[]⟩ : ByteArray) false 0 t126 t127 t128 t129 t130 t131 t132 t133 t134 t135 t136 t137 t138 t139 t140 t141 t142 t143 t144 t145 t146 bt153.1 bt153.2.1 bt153.2.2.1 bt153.2.2.2.1 bt153.2.2.2.2.1 bt153.2.2.2.2.2.1 bt153.2.2.2.2.2.2.1 bt153.2.2.2.2.2.2.2.1 bt153.2.2.2.2.2.2.2.2.1 bt153.2.2.2.2.2.2.2.2.2.1 bt153.2.2.2.2.2.2.2.2.2.2.1 bt153.2.2.2.2.2.2.2.2.2.2.2.1 bt153.2.2.2.2.2.2.2.2.2.2.2.2.1 bt153.2.2.2.2.2.2.2.2.2.2.2.2.2.1 bt153.2.2.2.2.2.2.2.2.2.2.2.2.2.2.1 bt153.2.2.2.2.2.2.2.2.2.2.2.2.2.2.2.1 bt153.2.2.2.2.2.2.2.2.2.2.2.2.2.2.2.2.1 bt153.2.2.2.2.2.2.2.2.2.2.2.2.2.2.2.2.2.1 bt153.2.2.2.2.2.2.2.2.2.2.2.2.2.2.2.2.2.2.1 bt153.2.2.2.2.2.2.2.2.2.2.2.2.2.2.2.2.2.2.2.1 bt153.2.2.2.2.2.2.2.2.2.2.2.2.2.2.2.2.2.2.2.2)) else (none)) = some r := H
            have A19 := Aside0.mk A190
            clear A190
            by_cases c20 : t147.length + l0.length < 8796093022208
            · rw [if_pos c20] at H
              have LMc20 := Aside0.mk c20
              clear c20
              obtain ⟨y150, hy150⟩ : ∃ y_ : List ByteArray, y_ = (t147 ++ l0) := ⟨_, rfl⟩
              replace H : ((cc_Parse.f kj4 y150).bind fun bt153 => (sprlaw14_CcTurns.l0 kj4 l0 (⟨#[]⟩ : ByteArray) false 0 t126 t127 t128 t129 t130 t131 t132 t133 t134 t135 t136 t137 t138 t139 t140 t141 t142 t143 t144 t145 t146 bt153.1 bt153.2.1 bt153.2.2.1 bt153.2.2.2.1 bt153.2.2.2.2.1 bt153.2.2.2.2.2.1 bt153.2.2.2.2.2.2.1 bt153.2.2.2.2.2.2.2.1 bt153.2.2.2.2.2.2.2.2.1 bt153.2.2.2.2.2.2.2.2.2.1 bt153.2.2.2.2.2.2.2.2.2.2.1 bt153.2.2.2.2.2.2.2.2.2.2.2.1 bt153.2.2.2.2.2.2.2.2.2.2.2.2.1 bt153.2.2.2.2.2.2.2.2.2.2.2.2.2.1 bt153.2.2.2.2.2.2.2.2.2.2.2.2.2.2.1 bt153.2.2.2.2.2.2.2.2.2.2.2.2.2.2.2.1 bt153.2.2.2.2.2.2.2.2.2.2.2.2.2.2.2.2.1 bt153.2.2.2.2.2.2.2.2.2.2.2.2.2.2.2.2.2.1 bt153.2.2.2.2.2.2.2.2.2.2.2.2.2.2.2.2.2.2.1 bt153.2.2.2.2.2.2.2.2.2.2.2.2.2.2.2.2.2.2.2.1 bt153.2.2.2.2.2.2.2.2.2.2.2.2.2.2.2.2.2.2.2.2)) = some r := by first | (rw [hy150]; with_reducible exact H) | (have H2_ := (Option.bind_some _ _).symm.trans H; rw [hy150]; with_reducible exact H2_) | (have H2_ := (Option.bind_some _ _).symm.trans H; with_reducible exact H2_) | with_reducible exact H | (rw [hy150]; exact H) | exact H
              have Ny150 := Aside0.mk hy150
              clear hy150
              replace H := Option.bind_eq_some_iff.mp H
              obtain ⟨⟨t153, t154, t155, t156, t157, t158, t159, t160, t161, t162, t163, t164, t165, t166, t167, t168, t169, t170, t171, t172, t173⟩, A210, H⟩ := H
              replace H : (sprlaw14_CcTurns.l0 kj4 l0 (⟨#[]⟩ : ByteArray) false 0 t126 t127 t128 t129 t130 t131 t132 t133 t134 t135 t136 t137 t138 t139 t140 t141 t142 t143 t144 t145 t146 t153 t154 t155 t156 t157 t158 t159 t160 t161 t162 t163 t164 t165 t166 t167 t168 t169 t170 t171 t172 t173) = some r := H
              have A21 := Aside0.mk A210
              clear A210
              have H' := Aside0.mk H
              clear H
              go_wp2_with (first | ((with_reducible refine gate_store (t := 35) (p := 5) rfl ?_); refine wpList_store_row rfl 35 _ _ rfl _ #[.bool t126, .bool t127, .bool t128, .bool t129, .bool t130, .bool t131, .bool t132, .bool t133, .bool t134, .bool t135, .bool t136, .bool t137, .int .i64 t138, .bool t139, .int .i64 t140, .bool t141, .int .i64 t142, .bool t143, .int .i64 t144, .bool t145, .int .i64 t146] rfl rfl 35 _ BK174.out (by kernel_rfl) rfl (by simp [Value.oneCell']) ?_; obtain ⟨wrx, hwrx⟩ : ∃ wr_, wr_ = World.setRow w31 gb174 #[.bool t126, .bool t127, .bool t128, .bool t129, .bool t130, .bool t131, .bool t132, .bool t133, .bool t134, .bool t135, .bool t136, .bool t137, .int .i64 t138, .bool t139, .int .i64 t140, .bool t141, .int .i64 t142, .bool t143, .int .i64 t144, .bool t145, .int .i64 t146] := ⟨_, rfl⟩; rw [← hwrx]; have HBx := Aside0.mk (by rw [hwrx]; exact cc_below_setRow HB.out GW174.out _ : Below w.heap.size w wrx); have BKx := Aside0.mk (by rw [hwrx]; exact setRow_heap _ _ _ _ _ _ BK174.out : wrx.heap[gb174]? = some (.cells #[.bool t126, .bool t127, .bool t128, .bool t129, .bool t130, .bool t131, .bool t132, .bool t133, .bool t134, .bool t135, .bool t136, .bool t137, .int .i64 t138, .bool t139, .int .i64 t140, .bool t141, .int .i64 t142, .bool t143, .int .i64 t144, .bool t145, .int .i64 t146] 35 (0, 0))); have BKy := Aside0.mk (by rw [hwrx]; exact (setRow_other _ _ _ _ (Ne.symm NB174_175.out)).trans BK175.out : wrx.heap[gb175]? = some (.cells #[.bool false, .bool false, .bool false, .bool false, .bool false, .bool false, .bool false, .bool false, .bool false, .bool false, .bool false, .bool false, .int .i64 0, .bool false, .int .i64 0, .bool false, .int .i64 0, .bool false, .int .i64 0, .bool false, .int .i64 0] 35 (0, 0))); clear hwrx HB; have HB := HBx; clear HBx; clear hcz33_0 hcz33_1 hcz33_2 hcz33_3 hcz33_4 hcz33_5 hcz33_6 hcz33_7 hcz33_8 hcz33_9 hcz33_10 hcz33_11 hcz33_12 hcz33_13 hcz33_14 hcz33_15 hcz33_16 hcz33_17 hcz33_18 hcz33_19 hcz33_20 hcz34_0 hcz34_1 hcz34_2 hcz34_3 hcz34_4 hcz34_5 hcz34_6 hcz34_7 hcz34_8 hcz34_9 hcz34_10 hcz34_11 hcz34_12 hcz34_13 hcz34_14 hcz34_15 hcz34_16 hcz34_17 hcz34_18 hcz34_19 hcz34_20 hfz33_0 hfz33_1 hfz33_2 hfz33_3 hfz33_4 hfz33_5 hfz33_6 hfz33_7 hfz33_8 hfz33_9 hfz33_10 hfz33_11 hfz33_12 hfz33_13 hfz33_14 hfz33_15 hfz33_16 hfz33_17 hfz33_18 hfz33_19 hfz33_20 hfz34_0 hfz34_1 hfz34_2 hfz34_3 hfz34_4 hfz34_5 hfz34_6 hfz34_7 hfz34_8 hfz34_9 hfz34_10 hfz34_11 hfz34_12 hfz34_13 hfz34_14 hfz34_15 hfz34_16 hfz34_17 hfz34_18 hfz34_19 hfz34_20) | ((with_reducible refine gate_store (t := 35) (p := 6) rfl ?_); refine wpList_store_row rfl 35 _ _ rfl _ #[.bool t153, .bool t154, .bool t155, .bool t156, .bool t157, .bool t158, .bool t159, .bool t160, .bool t161, .bool t162, .bool t163, .bool t164, .int .i64 t165, .bool t166, .int .i64 t167, .bool t168, .int .i64 t169, .bool t170, .int .i64 t171, .bool t172, .int .i64 t173] rfl rfl 35 _ BKy.out (by kernel_rfl) rfl (by simp [Value.oneCell']) ?_; obtain ⟨wry, hwry⟩ : ∃ wr_, wr_ = World.setRow wrx gb175 #[.bool t153, .bool t154, .bool t155, .bool t156, .bool t157, .bool t158, .bool t159, .bool t160, .bool t161, .bool t162, .bool t163, .bool t164, .int .i64 t165, .bool t166, .int .i64 t167, .bool t168, .int .i64 t169, .bool t170, .int .i64 t171, .bool t172, .int .i64 t173] := ⟨_, rfl⟩; rw [← hwry]; have HBy := Aside0.mk (by rw [hwry]; exact cc_below_setRow HB.out GW175.out _ : Below w.heap.size w wry); have BKX := Aside0.mk (by rw [hwry]; exact (setRow_other _ _ _ _ NB174_175.out).trans BKx.out : wry.heap[gb174]? = some (.cells #[.bool t126, .bool t127, .bool t128, .bool t129, .bool t130, .bool t131, .bool t132, .bool t133, .bool t134, .bool t135, .bool t136, .bool t137, .int .i64 t138, .bool t139, .int .i64 t140, .bool t141, .int .i64 t142, .bool t143, .int .i64 t144, .bool t145, .int .i64 t146] 35 (0, 0))); have BKY := Aside0.mk (by rw [hwry]; exact setRow_heap _ _ _ _ _ _ BKy.out : wry.heap[gb175]? = some (.cells #[.bool t153, .bool t154, .bool t155, .bool t156, .bool t157, .bool t158, .bool t159, .bool t160, .bool t161, .bool t162, .bool t163, .bool t164, .int .i64 t165, .bool t166, .int .i64 t167, .bool t168, .int .i64 t169, .bool t170, .int .i64 t171, .bool t172, .int .i64 t173] 35 (0, 0))); clear hwry HB BKx BKy; have HB := HBy; clear HBy) | ((with_reducible refine gate_callee (f := 10) rfl ?_); refine goesL_ (some 23) rfl rfl Tryd.func10 (by kernel_rfl) rfl #[.slice A0 l0.length c0] rfl (by (try simp only [List.map_toArray, List.map_cons, List.map_nil]); first | done | rfl | (simp only [List.length_drop, List.length_take]; rfl)) ?_; (with_reducible refine (sprref_CopyTexts.calls _ _ l0 t120 _ ?side1 ?side2 A16.out).mono ?_); (case side1 => repeat (first | exact (Kd.C_below HR0.out HB.out) | (with_reducible refine Kd.C_alloc ?_ _) | (with_reducible refine Kd.C_drewN ?_ _) | (with_reducible refine Kd.C_drew ?_))); (case side2 => exact HC0.out); rintro e w22 ⟨v121, rfl, ho0, hb⟩; refine ⟨_, rfl, ?_⟩; have n0_ := Aside0.mk (Kd.R_lower ho0 (below_size (by repeat (first | (with_reducible first | exact HB.out | apply below_alloc | apply pw_below_drewN | apply below_drew1) | exact HB.out)))); have n1_ := Aside0.mk (below_step (by repeat (first | (with_reducible first | exact HB.out | apply below_alloc | apply pw_below_drewN | apply below_drew1) | exact HB.out)) hb); clear HB; have HO122 := n0_; have HB := n1_; clear n0_ n1_; (try clear hb); (try clear hb2); (try clear hk); (try clear hi); (try clear ho0)) | ((with_reducible refine gate_builtin (b := .append) (xs := #[.tmp 23, .tmp 24]) rfl ?_); (try (refine gate_guard (by rfl) ?_; dsimp only)); at_builtin; refine Kd.R_append_rows Kd.string (w0 := w) w.heap.size rfl (.tmp 23) (.tmp 24) 22 9 (.string ⟨#[]⟩) 16 rfl Tryd.underlying22 info9 rfl (by decide) (by omega) v121 t120 l1 _ _ _ (fun _ => True) (fun _ => False) rfl rfl ?aO ?aR (fun _ _ h => h) (fun _ h => h.elim) ?aF ?aB ?aS ?aL ?_; (case aR => repeat (first | exact (Kd.C_below HR1.out HB.out) | (with_reducible refine Kd.C_alloc ?_ _) | (with_reducible refine Kd.C_drewN ?_ _) | (with_reducible refine Kd.C_drew ?_))); (case aB => exact (by repeat (first | (with_reducible first | exact HB.out | apply below_alloc | apply pw_below_drewN | apply below_drew1) | exact HB.out))); (case aF => exact (fun _ _ => trivial)); (case aO => exact (by (with_reducible repeat (first | apply Kd.R_alloc | apply Kd.R_drewN | apply Kd.R_drew)); exact HO122.out)); (case aS => exact (below_size (by repeat (first | (with_reducible first | exact HB.out | apply below_alloc | apply pw_below_drewN | apply below_drew1) | exact HB.out)))); (case aL => have := LMc17.out; omega); intro v124 w23 ho hb hg hat; rw [← Ny123.out] at ho; have n0_ := Aside0.mk (hb); have n1_ := Aside0.mk (ho); clear HB; clear HO122; have HB := n0_; have HO125 := n1_; clear n0_ n1_; clear ho hb hg hat; obtain ⟨Ao24, co24, eo24⟩ := Kd.R_slice HO125.out; subst eo24) | ((with_reducible refine gate_callee (f := 14) rfl ?_); refine goesL_ (some 26) rfl rfl Tryd.func14 (by kernel_rfl) rfl #[.slice Ao24 y123.length co24] rfl (by (try simp only [List.map_toArray, List.map_cons, List.map_nil]); first | done | rfl | (simp only [List.length_drop, List.length_take]; rfl)) ?_; (with_reducible refine (cc_Parse.calls kj4 _ _ y123 t126 t127 t128 t129 t130 t131 t132 t133 t134 t135 t136 t137 t138 t139 t140 t141 t142 t143 t144 t145 t146 _ ?side1 ?side2 A18.out).mono ?_); (case side1 => repeat (first | exact (Kd.R_reads' HO125.out).2.2 | (with_reducible refine Kd.C_alloc ?_ _) | (with_reducible refine Kd.C_drewN ?_ _) | (with_reducible refine Kd.C_drew ?_))); (case side2 => exact (Kd.R_reads' HO125.out).2.1); rintro e w25 ⟨rfl, hb⟩; refine ⟨_, rfl, ?_⟩; have n0_ := Aside0.mk (Kd.R_below (by (with_reducible repeat (first | apply Kd.R_alloc | apply Kd.R_drewN | apply Kd.R_drew)); exact HO125.out) hb); have n1_ := Aside0.mk (below_step (by repeat (first | (with_reducible first | exact HB.out | apply below_alloc | apply pw_below_drewN | apply below_drew1) | exact HB.out)) hb); clear HO125; clear HB; have HO125 := n0_; have HB := n1_; clear n0_ n1_; (try clear hb); (try clear hb2); (try clear hk); (try clear hi)) | ((with_reducible refine gate_callee (f := 10) rfl ?_); refine goesL_ (some 28) rfl rfl Tryd.func10 (by kernel_rfl) rfl #[.slice A1 l1.length c1] rfl (by (try simp only [List.map_toArray, List.map_cons, List.map_nil]); first | done | rfl | (simp only [List.length_drop, List.length_take]; rfl)) ?_; (with_reducible refine (sprref_CopyTexts.calls _ _ l1 t147 _ ?side1 ?side2 A19.out).mono ?_); (case side1 => repeat (first | exact (Kd.C_below HR1.out HB.out) | (with_reducible refine Kd.C_alloc ?_ _) | (with_reducible refine Kd.C_drewN ?_ _) | (with_reducible refine Kd.C_drew ?_))); (case side2 => exact HC1.out); rintro e w26 ⟨v148, rfl, ho0, hb⟩; refine ⟨_, rfl, ?_⟩; have n0_ := Aside0.mk (Kd.R_elder' (by (with_reducible repeat (first | apply Kd.R_alloc | apply Kd.R_drewN | apply Kd.R_drew)); exact HO125.out) (Kd.R_base ho0) hb); have n1_ := Aside0.mk (Kd.R_lower (Kd.R_new' ho0 (Kd.R_lt (by (with_reducible repeat (first | apply Kd.R_alloc | apply Kd.R_drewN | apply Kd.R_drew)); exact HO125.out))) (below_size (by repeat (first | (with_reducible first | exact HB.out | apply below_alloc | apply pw_below_drewN | apply below_drew1) | exact HB.out)))); have n2_ := Aside0.mk (below_step (by repeat (first | (with_reducible first | exact HB.out | apply below_alloc | apply pw_below_drewN | apply below_drew1) | exact HB.out)) hb); clear HO125; clear HB; have HO125 := n0_; have HO149 := n1_; have HB := n2_; clear n0_ n1_ n2_; (try clear hb); (try clear hb2); (try clear hk); (try clear hi); (try clear ho0)) | ((with_reducible refine gate_builtin (b := .append) (xs := #[.tmp 28, .tmp 29]) rfl ?_); (try (refine gate_guard (by rfl) ?_; dsimp only)); at_builtin; refine Kd.R_append_rows Kd.string (w0 := w) w.heap.size rfl (.tmp 28) (.tmp 29) 22 9 (.string ⟨#[]⟩) 16 rfl Tryd.underlying22 info9 rfl (by decide) (by omega) v148 t147 l0 _ _ _ (fun k_ => some k_ ≠ (.slice Ao24 y123.length co24 : Value).ownBlock) (fun _ => False) rfl rfl ?aO ?aR (fun _ _ h => h) (fun _ h => h.elim) ?aF ?aB ?aS ?aL ?_; (case aR => repeat (first | exact (Kd.C_below HR0.out HB.out) | (with_reducible refine Kd.C_alloc ?_ _) | (with_reducible refine Kd.C_drewN ?_ _) | (with_reducible refine Kd.C_drew ?_))); (case aB => exact (by repeat (first | (with_reducible first | exact HB.out | apply below_alloc | apply pw_below_drewN | apply below_drew1) | exact HB.out))); (case aF => exact (fun k_ hk => Kd.fresh' (Kd.R_lt (by (with_reducible repeat (first | apply Kd.R_alloc | apply Kd.R_drewN | apply Kd.R_drew)); exact HO125.out)) k_ hk)); (case aO => exact (by (with_reducible repeat (first | apply Kd.R_alloc | apply Kd.R_drewN | apply Kd.R_drew)); exact Kd.R_mono HO149.out (fun _ hk => hk.2))); (case aS => exact (below_size (by repeat (first | (with_reducible first | exact HB.out | apply below_alloc | apply pw_below_drewN | apply below_drew1) | exact HB.out)))); (case aL => have := LMc20.out; omega); intro v151 w27 ho hb hg hat; rw [← Ny150.out] at ho; have n0_ := Aside0.mk (Kd.R_after (ok := (fun _ => True)) (by (with_reducible repeat (first | apply Kd.R_alloc | apply Kd.R_drewN | apply Kd.R_drew)); exact HO125.out) hg hat); have n1_ := Aside0.mk (hb); have n2_ := Aside0.mk (ho); clear HO125; clear HB; clear HO149; have HO125 := n0_; have HB := n1_; have HO152 := n2_; clear n0_ n1_ n2_; clear ho hb hg hat; obtain ⟨Ao28, co28, eo28⟩ := Kd.R_slice HO152.out; subst eo28) | ((with_reducible refine gate_callee (f := 14) rfl ?_); refine goesL_ (some 31) rfl rfl Tryd.func14 (by kernel_rfl) rfl #[.slice Ao28 y150.length co28] rfl (by (try simp only [List.map_toArray, List.map_cons, List.map_nil]); first | done | rfl | (simp only [List.length_drop, List.length_take]; rfl)) ?_; (with_reducible refine (cc_Parse.calls kj4 _ _ y150 t153 t154 t155 t156 t157 t158 t159 t160 t161 t162 t163 t164 t165 t166 t167 t168 t169 t170 t171 t172 t173 _ ?side1 ?side2 A21.out).mono ?_); (case side1 => repeat (first | exact (Kd.R_reads' HO152.out).2.2 | (with_reducible refine Kd.C_alloc ?_ _) | (with_reducible refine Kd.C_drewN ?_ _) | (with_reducible refine Kd.C_drew ?_))); (case side2 => exact (Kd.R_reads' HO152.out).2.1); rintro e w29 ⟨rfl, hb⟩; refine ⟨_, rfl, ?_⟩; have n0_ := Aside0.mk (Kd.R_below (by (with_reducible repeat (first | apply Kd.R_alloc | apply Kd.R_drewN | apply Kd.R_drew)); exact HO125.out) hb); have n1_ := Aside0.mk (Kd.R_below (by (with_reducible repeat (first | apply Kd.R_alloc | apply Kd.R_drewN | apply Kd.R_drew)); exact HO152.out) hb); have n2_ := Aside0.mk (below_step (by repeat (first | (with_reducible first | exact HB.out | apply below_alloc | apply pw_below_drewN | apply below_drew1) | exact HB.out)) hb); clear HO125; clear HO152; clear HB; have HO125 := n0_; have HO152 := n1_; have HB := n2_; clear n0_ n1_ n2_; (try clear hb); (try clear hb2); (try clear hk); (try clear hi)) | ((with_reducible refine gate_dst (N := 5) rfl ?_); (try (refine gate_guard (by rfl) ?_; dsimp only)); refine box_event ?hg (N := 5) ?hd (cs := #[.bool false, .bool false, .bool false, .bool false, .bool false, .bool false, .bool false, .bool false, .bool false, .bool false, .bool false, .bool false, .int .i64 0, .bool false, .int .i64 0, .bool false, .int .i64 0, .bool false, .int .i64 0, .bool false, .int .i64 0]) (t := 35) ?hr ?_; (case hd => rfl); (case hg => rfl); (case hr => first | (go_simp; done) | (go_simp; rfl)); intro gb174 hg w30 hbox hb; have n0_ := Aside0.mk (Kd.R_below (by (with_reducible repeat (first | apply Kd.R_alloc | apply Kd.R_drewN | apply Kd.R_drew)); exact HO125.out) hb); have n1_ := Aside0.mk (Kd.R_below (by (with_reducible repeat (first | apply Kd.R_alloc | apply Kd.R_drewN | apply Kd.R_drew)); exact HO152.out) hb); have n2_ := Aside0.mk (below_step (by repeat (first | (with_reducible first | exact HB.out | apply below_alloc | apply pw_below_drewN | apply below_drew1) | exact HB.out)) hb); have n3_ := Aside0.mk (hbox); have n4_ := Aside0.mk ((by rw [hg]; exact (below_size (by repeat (first | (with_reducible first | exact HB.out | apply below_alloc | apply pw_below_drewN | apply below_drew1) | exact HB.out))) : w.heap.size ≤ gb174)); have n5_ := Aside0.mk ((by rw [hg]; exact (below_size (by repeat (first | (with_reducible first | exact HB.out | apply below_alloc | apply pw_below_drewN | apply below_drew1) | exact HB.out))) : w.heap.size ≤ gb174)); clear HO125; clear HO152; clear HB; have HO125 := n0_; have HO152 := n1_; have HB := n2_; have BK174 := n3_; have GW174 := n4_; have GE174 := n5_; clear n0_ n1_ n2_ n3_ n4_ n5_; clear hb hbox hg) | ((with_reducible refine gate_dst (N := 6) rfl ?_); (try (refine gate_guard (by rfl) ?_; dsimp only)); refine box_event ?hg (N := 6) ?hd (cs := #[.bool false, .bool false, .bool false, .bool false, .bool false, .bool false, .bool false, .bool false, .bool false, .bool false, .bool false, .bool false, .int .i64 0, .bool false, .int .i64 0, .bool false, .int .i64 0, .bool false, .int .i64 0, .bool false, .int .i64 0]) (t := 35) ?hr ?_; (case hd => rfl); (case hg => rfl); (case hr => first | (go_simp; done) | (go_simp; rfl)); intro gb175 hg w31 hbox hb; have n0_ := Aside0.mk (Kd.R_below (by (with_reducible repeat (first | apply Kd.R_alloc | apply Kd.R_drewN | apply Kd.R_drew)); exact HO125.out) hb); have n1_ := Aside0.mk (Kd.R_below (by (with_reducible repeat (first | apply Kd.R_alloc | apply Kd.R_drewN | apply Kd.R_drew)); exact HO152.out) hb); have n2_ := Aside0.mk (blk_below (g := gb174) (o := .cells #[.bool false, .bool false, .bool false, .bool false, .bool false, .bool false, .bool false, .bool false, .bool false, .bool false, .bool false, .bool false, .int .i64 0, .bool false, .int .i64 0, .bool false, .int .i64 0, .bool false, .int .i64 0, .bool false, .int .i64 0] 35 (0, 0)) (by (with_reducible repeat (first | refine blk_drewN ?_ _ | refine blk_drew ?_ | refine blk_alloc ?_ _)); exact BK174.out) hb); have n3_ := Aside0.mk (below_step (by repeat (first | (with_reducible first | exact HB.out | apply below_alloc | apply pw_below_drewN | apply below_drew1 | refine below_set ?_ GE174.out) | exact HB.out)) hb); have n4_ := Aside0.mk (hbox); have n5_ := Aside0.mk ((by rw [hg]; exact (below_size (by repeat (first | (with_reducible first | exact HB.out | apply below_alloc | apply pw_below_drewN | apply below_drew1 | refine below_set ?_ GE174.out) | exact HB.out))) : w.heap.size ≤ gb175)); have n6_ := Aside0.mk ((by rw [hg]; exact (below_size (by repeat (first | (with_reducible first | exact HB.out | apply below_alloc | apply pw_below_drewN | apply below_drew1 | refine below_set ?_ GE174.out) | exact HB.out))) : w.heap.size ≤ gb175)); have n7_ := Aside0.mk ((by rw [hg]; exact Nat.ne_of_lt (blk_lt (g := gb174) (o := .cells #[.bool false, .bool false, .bool false, .bool false, .bool false, .bool false, .bool false, .bool false, .bool false, .bool false, .bool false, .bool false, .int .i64 0, .bool false, .int .i64 0, .bool false, .int .i64 0, .bool false, .int .i64 0, .bool false, .int .i64 0] 35 (0, 0)) (by (with_reducible repeat (first | refine blk_drewN ?_ _ | refine blk_drew ?_ | refine blk_alloc ?_ _)); exact BK174.out)) : gb174 ≠ gb175)); have n8_ := Aside0.mk ((by rw [hg]; exact Nat.ne_of_gt (blk_lt (g := gb174) (o := .cells #[.bool false, .bool false, .bool false, .bool false, .bool false, .bool false, .bool false, .bool false, .bool false, .bool false, .bool false, .bool false, .int .i64 0, .bool false, .int .i64 0, .bool false, .int .i64 0, .bool false, .int .i64 0, .bool false, .int .i64 0] 35 (0, 0)) (by (with_reducible repeat (first | refine blk_drewN ?_ _ | refine blk_drew ?_ | refine blk_alloc ?_ _)); exact BK174.out)) : gb175 ≠ gb174)); clear HO125; clear HO152; clear BK174; clear HB; have HO125 := n0_; have HO152 := n1_; have BK174 := n2_; have HB := n3_; have BK175 := n4_; have GW175 := n5_; have GE175 := n6_; have NB174_175 := n7_; have NB175_174 := n8_; clear n0_ n1_ n2_ n3_ n4_ n5_ n6_ n7_ n8_; clear hb hbox hg; have hnb32 := NB174_175.out; have hnc32 := NB175_174.out; have hcz33_0 : w31.cell? ⟨gb174, 0, none⟩ = some (.bool false) := (blk_cell BK174.out 0).trans rfl; have hcz33_1 : w31.cell? ⟨gb174, 1, none⟩ = some (.bool false) := (blk_cell BK174.out 1).trans rfl; have hcz33_2 : w31.cell? ⟨gb174, 2, none⟩ = some (.bool false) := (blk_cell BK174.out 2).trans rfl; have hcz33_3 : w31.cell? ⟨gb174, 3, none⟩ = some (.bool false) := (blk_cell BK174.out 3).trans rfl; have hcz33_4 : w31.cell? ⟨gb174, 4, none⟩ = some (.bool false) := (blk_cell BK174.out 4).trans rfl; have hcz33_5 : w31.cell? ⟨gb174, 5, none⟩ = some (.bool false) := (blk_cell BK174.out 5).trans rfl; have hcz33_6 : w31.cell? ⟨gb174, 6, none⟩ = some (.bool false) := (blk_cell BK174.out 6).trans rfl; have hcz33_7 : w31.cell? ⟨gb174, 7, none⟩ = some (.bool false) := (blk_cell BK174.out 7).trans rfl; have hcz33_8 : w31.cell? ⟨gb174, 8, none⟩ = some (.bool false) := (blk_cell BK174.out 8).trans rfl; have hcz33_9 : w31.cell? ⟨gb174, 9, none⟩ = some (.bool false) := (blk_cell BK174.out 9).trans rfl; have hcz33_10 : w31.cell? ⟨gb174, 10, none⟩ = some (.bool false) := (blk_cell BK174.out 10).trans rfl; have hcz33_11 : w31.cell? ⟨gb174, 11, none⟩ = some (.bool false) := (blk_cell BK174.out 11).trans rfl; have hcz33_12 : w31.cell? ⟨gb174, 12, none⟩ = some (.int .i64 0) := (blk_cell BK174.out 12).trans rfl; have hcz33_13 : w31.cell? ⟨gb174, 13, none⟩ = some (.bool false) := (blk_cell BK174.out 13).trans rfl; have hcz33_14 : w31.cell? ⟨gb174, 14, none⟩ = some (.int .i64 0) := (blk_cell BK174.out 14).trans rfl; have hcz33_15 : w31.cell? ⟨gb174, 15, none⟩ = some (.bool false) := (blk_cell BK174.out 15).trans rfl; have hcz33_16 : w31.cell? ⟨gb174, 16, none⟩ = some (.int .i64 0) := (blk_cell BK174.out 16).trans rfl; have hcz33_17 : w31.cell? ⟨gb174, 17, none⟩ = some (.bool false) := (blk_cell BK174.out 17).trans rfl; have hcz33_18 : w31.cell? ⟨gb174, 18, none⟩ = some (.int .i64 0) := (blk_cell BK174.out 18).trans rfl; have hcz33_19 : w31.cell? ⟨gb174, 19, none⟩ = some (.bool false) := (blk_cell BK174.out 19).trans rfl; have hcz33_20 : w31.cell? ⟨gb174, 20, none⟩ = some (.int .i64 0) := (blk_cell BK174.out 20).trans rfl; have hfz33_0 := blk_frozen BK174.out 0; have hfz33_1 := blk_frozen BK174.out 1; have hfz33_2 := blk_frozen BK174.out 2; have hfz33_3 := blk_frozen BK174.out 3; have hfz33_4 := blk_frozen BK174.out 4; have hfz33_5 := blk_frozen BK174.out 5; have hfz33_6 := blk_frozen BK174.out 6; have hfz33_7 := blk_frozen BK174.out 7; have hfz33_8 := blk_frozen BK174.out 8; have hfz33_9 := blk_frozen BK174.out 9; have hfz33_10 := blk_frozen BK174.out 10; have hfz33_11 := blk_frozen BK174.out 11; have hfz33_12 := blk_frozen BK174.out 12; have hfz33_13 := blk_frozen BK174.out 13; have hfz33_14 := blk_frozen BK174.out 14; have hfz33_15 := blk_frozen BK174.out 15; have hfz33_16 := blk_frozen BK174.out 16; have hfz33_17 := blk_frozen BK174.out 17; have hfz33_18 := blk_frozen BK174.out 18; have hfz33_19 := blk_frozen BK174.out 19; have hfz33_20 := blk_frozen BK174.out 20; have hcz34_0 : w31.cell? ⟨gb175, 0, none⟩ = some (.bool false) := (blk_cell BK175.out 0).trans rfl; have hcz34_1 : w31.cell? ⟨gb175, 1, none⟩ = some (.bool false) := (blk_cell BK175.out 1).trans rfl; have hcz34_2 : w31.cell? ⟨gb175, 2, none⟩ = some (.bool false) := (blk_cell BK175.out 2).trans rfl; have hcz34_3 : w31.cell? ⟨gb175, 3, none⟩ = some (.bool false) := (blk_cell BK175.out 3).trans rfl; have hcz34_4 : w31.cell? ⟨gb175, 4, none⟩ = some (.bool false) := (blk_cell BK175.out 4).trans rfl; have hcz34_5 : w31.cell? ⟨gb175, 5, none⟩ = some (.bool false) := (blk_cell BK175.out 5).trans rfl; have hcz34_6 : w31.cell? ⟨gb175, 6, none⟩ = some (.bool false) := (blk_cell BK175.out 6).trans rfl; have hcz34_7 : w31.cell? ⟨gb175, 7, none⟩ = some (.bool false) := (blk_cell BK175.out 7).trans rfl; have hcz34_8 : w31.cell? ⟨gb175, 8, none⟩ = some (.bool false) := (blk_cell BK175.out 8).trans rfl; have hcz34_9 : w31.cell? ⟨gb175, 9, none⟩ = some (.bool false) := (blk_cell BK175.out 9).trans rfl; have hcz34_10 : w31.cell? ⟨gb175, 10, none⟩ = some (.bool false) := (blk_cell BK175.out 10).trans rfl; have hcz34_11 : w31.cell? ⟨gb175, 11, none⟩ = some (.bool false) := (blk_cell BK175.out 11).trans rfl; have hcz34_12 : w31.cell? ⟨gb175, 12, none⟩ = some (.int .i64 0) := (blk_cell BK175.out 12).trans rfl; have hcz34_13 : w31.cell? ⟨gb175, 13, none⟩ = some (.bool false) := (blk_cell BK175.out 13).trans rfl; have hcz34_14 : w31.cell? ⟨gb175, 14, none⟩ = some (.int .i64 0) := (blk_cell BK175.out 14).trans rfl; have hcz34_15 : w31.cell? ⟨gb175, 15, none⟩ = some (.bool false) := (blk_cell BK175.out 15).trans rfl; have hcz34_16 : w31.cell? ⟨gb175, 16, none⟩ = some (.int .i64 0) := (blk_cell BK175.out 16).trans rfl; have hcz34_17 : w31.cell? ⟨gb175, 17, none⟩ = some (.bool false) := (blk_cell BK175.out 17).trans rfl; have hcz34_18 : w31.cell? ⟨gb175, 18, none⟩ = some (.int .i64 0) := (blk_cell BK175.out 18).trans rfl; have hcz34_19 : w31.cell? ⟨gb175, 19, none⟩ = some (.bool false) := (blk_cell BK175.out 19).trans rfl; have hcz34_20 : w31.cell? ⟨gb175, 20, none⟩ = some (.int .i64 0) := (blk_cell BK175.out 20).trans rfl; have hfz34_0 := blk_frozen BK175.out 0; have hfz34_1 := blk_frozen BK175.out 1; have hfz34_2 := blk_frozen BK175.out 2; have hfz34_3 := blk_frozen BK175.out 3; have hfz34_4 := blk_frozen BK175.out 4; have hfz34_5 := blk_frozen BK175.out 5; have hfz34_6 := blk_frozen BK175.out 6; have hfz34_7 := blk_frozen BK175.out 7; have hfz34_8 := blk_frozen BK175.out 8; have hfz34_9 := blk_frozen BK175.out 9; have hfz34_10 := blk_frozen BK175.out 10; have hfz34_11 := blk_frozen BK175.out 11; have hfz34_12 := blk_frozen BK175.out 12; have hfz34_13 := blk_frozen BK175.out 13; have hfz34_14 := blk_frozen BK175.out 14; have hfz34_15 := blk_frozen BK175.out 15; have hfz34_16 := blk_frozen BK175.out 16; have hfz34_17 := blk_frozen BK175.out 17; have hfz34_18 := blk_frozen BK175.out 18; have hfz34_19 := blk_frozen BK175.out 19; have hfz34_20 := blk_frozen BK175.out 20))
              go_loopg [7, 8, 9] kj4 (fun kq v7 v8 v9 w' => ∃ (x7_2 : ByteArray) (x8_2 : Bool) (x9_2 : Int), v7 = .string x7_2 ∧ v8 = .bool x8_2 ∧ v9 = .int .i64 x9_2 ∧ Aside0 (sprlaw14_CcTurns.l0 kq l0 x7_2 x8_2 x9_2 t126 t127 t128 t129 t130 t131 t132 t133 t134 t135 t136 t137 t138 t139 t140 t141 t142 t143 t144 t145 t146 t153 t154 t155 t156 t157 t158 t159 t160 t161 t162 t163 t164 t165 t166 t167 t168 t169 t170 t171 t172 t173 = some r) ∧ Aside0 (kq ≤ kj4) ∧ Aside0 (w'.heap[gb174]? = some (.cells #[.bool t126, .bool t127, .bool t128, .bool t129, .bool t130, .bool t131, .bool t132, .bool t133, .bool t134, .bool t135, .bool t136, .bool t137, .int .i64 t138, .bool t139, .int .i64 t140, .bool t141, .int .i64 t142, .bool t143, .int .i64 t144, .bool t145, .int .i64 t146] 35 (0, 0))) ∧ Aside0 (w'.heap[gb175]? = some (.cells #[.bool t153, .bool t154, .bool t155, .bool t156, .bool t157, .bool t158, .bool t159, .bool t160, .bool t161, .bool t162, .bool t163, .bool t164, .int .i64 t165, .bool t166, .int .i64 t167, .bool t168, .int .i64 t169, .bool t170, .int .i64 t171, .bool t172, .int .i64 t173] 35 (0, 0))) ∧ Aside0 (Below w.heap.size w w'))
              case atStart => exact ⟨((⟨#[]⟩ : ByteArray)), (false), (0), (by first | rfl | (simp; done) | (simp [*]; done)), (by first | rfl | (simp; done) | (simp [*]; done)), (by first | rfl | (simp; done) | (simp [*]; done)), H', ⟨Nat.le_refl _⟩, BKX, BKY, HB⟩
              case round =>
                clear H'
                try clear c1
                try clear c2
                try clear p2
                try clear c3
                try clear c4
                try clear c5
                try clear c8
                try clear c9
                try clear c10
                try clear c13
                try clear c14
                try clear c17
                try clear c20
                try clear c32
                try clear hcz33_0
                try clear hcz33_1
                try clear hcz33_10
                try clear hcz33_11
                try clear hcz33_12
                try clear hcz33_13
                try clear hcz33_14
                try clear hcz33_15
                try clear hcz33_16
                try clear hcz33_17
                try clear hcz33_18
                try clear hcz33_19
                try clear hcz33_2
                try clear hcz33_20
                try clear hcz33_3
                try clear hcz33_4
                try clear hcz33_5
                try clear hcz33_6
                try clear hcz33_7
                try clear hcz33_8
                try clear hcz33_9
                try clear hcz34_0
                try clear hcz34_1
                try clear hcz34_10
                try clear hcz34_11
                try clear hcz34_12
                try clear hcz34_13
                try clear hcz34_14
                try clear hcz34_15
                try clear hcz34_16
                try clear hcz34_17
                try clear hcz34_18
                try clear hcz34_19
                try clear hcz34_2
                try clear hcz34_20
                try clear hcz34_3
                try clear hcz34_4
                try clear hcz34_5
                try clear hcz34_6
                try clear hcz34_7
                try clear hcz34_8
                try clear hcz34_9
                try clear hfz33_0
                try clear hfz33_1
                try clear hfz33_10
                try clear hfz33_11
                try clear hfz33_12
                try clear hfz33_13
                try clear hfz33_14
                try clear hfz33_15
                try clear hfz33_16
                try clear hfz33_17
                try clear hfz33_18
                try clear hfz33_19
                try clear hfz33_2
                try clear hfz33_20
                try clear hfz33_3
                try clear hfz33_4
                try clear hfz33_5
                try clear hfz33_6
                try clear hfz33_7
                try clear hfz33_8
                try clear hfz33_9
                try clear hfz34_0
                try clear hfz34_1
                try clear hfz34_10
                try clear hfz34_11
                try clear hfz34_12
                try clear hfz34_13
                try clear hfz34_14
                try clear hfz34_15
                try clear hfz34_16
                try clear hfz34_17
                try clear hfz34_18
                try clear hfz34_19
                try clear hfz34_2
                try clear hfz34_20
                try clear hfz34_3
                try clear hfz34_4
                try clear hfz34_5
                try clear hfz34_6
                try clear hfz34_7
                try clear hfz34_8
                try clear hfz34_9
                try clear p2
                obtain ⟨x7_2, x8_2, x9_2, rfl, rfl, rfl, HA, HK2, BK174, BK175, HB⟩ := hrel
                cases gk with
                | zero => exact absurd HA.out (by simp [sprlaw14_CcTurns.l0])
                | succ k2 =>
                  have H := HA.out
                  clear HA
                  simp only [sprlaw14_CcTurns.l0] at H
                  by_cases c35 : x9_2 < (l0.length : Int)
                  · rw [if_pos c35] at H
                    have c35b0 : decide (x9_2 < (l0.length : Int)) = true := decide_eq_true c35
                    clear c35
                    have HC36 := Aside0.mk H
                    clear H
                    go_upto_if 39 with (fail)
                    go_cut [7] (fun v7 wc => ∃ (kq : Nat) (x7_35 : ByteArray), v7 = .string x7_35 ∧ Aside0 (sprlaw14_CcTurns.j2 kq l0 x7_35 x8_2 x9_2 t126 t127 t128 t129 t130 t131 t132 t133 t134 t135 t136 t137 t138 t139 t140 t141 t142 t143 t144 t145 t146 t153 t154 t155 t156 t157 t158 t159 t160 t161 t162 t163 t164 t165 t166 t167 t168 t169 t170 t171 t172 t173 = some r) ∧ Aside0 (kq ≤ k2) ∧ Aside0 (wc.heap[gb174]? = some (.cells #[.bool t126, .bool t127, .bool t128, .bool t129, .bool t130, .bool t131, .bool t132, .bool t133, .bool t134, .bool t135, .bool t136, .bool t137, .int .i64 t138, .bool t139, .int .i64 t140, .bool t141, .int .i64 t142, .bool t143, .int .i64 t144, .bool t145, .int .i64 t146] 35 (0, 0))) ∧ Aside0 (wc.heap[gb175]? = some (.cells #[.bool t153, .bool t154, .bool t155, .bool t156, .bool t157, .bool t158, .bool t159, .bool t160, .bool t161, .bool t162, .bool t163, .bool t164, .int .i64 t165, .bool t166, .int .i64 t167, .bool t168, .int .i64 t169, .bool t170, .int .i64 t171, .bool t172, .int .i64 t173] 35 (0, 0))) ∧ Aside0 (Below w.heap.size w wc))
                    case first =>
                      have H := HC36.out
                      clear HC36
                      by_cases c37 : x9_2 > 0
                      · rw [if_pos c37] at H
                        have c37b0 : decide (0 < x9_2) = true := decide_eq_true c37
                        clear c37
                        (first | rw [c37b0] | (simp only [i64_w, i32_w]; rw [c37b0]) | skip)
                        by_cases c38 : x7_2.size + 2 ≤ 9223372036854775807
                        · rw [if_pos c38] at H
                          have c38b0 := eq_true c38
                          have c38b1 : decide (x7_2.size + 2 ≤ 9223372036854775807) = true := decide_eq_true c38
                          try have c38b2 : (9223372036854775807 < x7_2.size + 2) = False := eq_false (Nat.not_lt.2 c38)
                          have H' := Aside0.mk H
                          clear H
                          go_wp2
                          go_meet
                          case rel => exact ⟨_, (x7_2 ++ (⟨#[44, 32]⟩ : ByteArray)), (by first | rfl | (simp; done) | (simp [*]; done)), H', ⟨by have := HJ4.out; have := HK2.out; first | omega | exact Nat.le_refl _⟩, ⟨by (with_reducible repeat (first | refine blk_drewN ?_ _ | refine blk_drew ?_ | refine blk_alloc ?_ _)); exact BK174.out⟩, ⟨by (with_reducible repeat (first | refine blk_drewN ?_ _ | refine blk_drew ?_ | refine blk_alloc ?_ _)); exact BK175.out⟩, ⟨by repeat (first | (with_reducible first | exact HB.out | apply below_alloc | apply pw_below_drewN | apply below_drew1 | refine below_set ?_ GE174.out | refine below_set ?_ GE175.out) | exact HB.out)⟩⟩
                        · rw [if_neg c38] at H
                          exact absurd H (by simp)
                      · rw [if_neg c37] at H
                        have c37b0 : decide (0 < x9_2) = false := decide_eq_false c37
                        clear c37
                        (first | rw [c37b0] | (simp only [i64_w, i32_w]; rw [c37b0]) | skip)
                        have H' := Aside0.mk H
                        clear H
                        go_wp2
                        go_meet
                        case rel => exact ⟨_, (x7_2), (by first | rfl | (simp; done) | (simp [*]; done)), H', ⟨by have := HJ4.out; have := HK2.out; first | omega | exact Nat.le_refl _⟩, ⟨by (with_reducible repeat (first | refine blk_drewN ?_ _ | refine blk_drew ?_ | refine blk_alloc ?_ _)); exact BK174.out⟩, ⟨by (with_reducible repeat (first | refine blk_drewN ?_ _ | refine blk_drew ?_ | refine blk_alloc ?_ _)); exact BK175.out⟩, ⟨by repeat (first | (with_reducible first | exact HB.out | apply below_alloc | apply pw_below_drewN | apply below_drew1 | refine below_set ?_ GE174.out | refine below_set ?_ GE175.out) | exact HB.out)⟩⟩
                    case rest =>
                      clear HC36
                      try clear c1
                      try clear c2
                      try clear p2
                      try clear c3
                      try clear c4
                      try clear c5
                      try clear c8
                      try clear c9
                      try clear c10
                      try clear c13
                      try clear c14
                      try clear c17
                      try clear c20
                      try clear c32
                      try clear c35
                      try clear c35b0
                      try clear c37
                      try clear c37b0
                      try clear c38
                      try clear c38b0
                      try clear c38b1
                      try clear c38b2
                      try clear hcz33_0
                      try clear hcz33_1
                      try clear hcz33_10
                      try clear hcz33_11
                      try clear hcz33_12
                      try clear hcz33_13
                      try clear hcz33_14
                      try clear hcz33_15
                      try clear hcz33_16
                      try clear hcz33_17
                      try clear hcz33_18
                      try clear hcz33_19
                      try clear hcz33_2
                      try clear hcz33_20
                      try clear hcz33_3
                      try clear hcz33_4
                      try clear hcz33_5
                      try clear hcz33_6
                      try clear hcz33_7
                      try clear hcz33_8
                      try clear hcz33_9
                      try clear hcz34_0
                      try clear hcz34_1
                      try clear hcz34_10
                      try clear hcz34_11
                      try clear hcz34_12
                      try clear hcz34_13
                      try clear hcz34_14
                      try clear hcz34_15
                      try clear hcz34_16
                      try clear hcz34_17
                      try clear hcz34_18
                      try clear hcz34_19
                      try clear hcz34_2
                      try clear hcz34_20
                      try clear hcz34_3
                      try clear hcz34_4
                      try clear hcz34_5
                      try clear hcz34_6
                      try clear hcz34_7
                      try clear hcz34_8
                      try clear hcz34_9
                      try clear hfz33_0
                      try clear hfz33_1
                      try clear hfz33_10
                      try clear hfz33_11
                      try clear hfz33_12
                      try clear hfz33_13
                      try clear hfz33_14
                      try clear hfz33_15
                      try clear hfz33_16
                      try clear hfz33_17
                      try clear hfz33_18
                      try clear hfz33_19
                      try clear hfz33_2
                      try clear hfz33_20
                      try clear hfz33_3
                      try clear hfz33_4
                      try clear hfz33_5
                      try clear hfz33_6
                      try clear hfz33_7
                      try clear hfz33_8
                      try clear hfz33_9
                      try clear hfz34_0
                      try clear hfz34_1
                      try clear hfz34_10
                      try clear hfz34_11
                      try clear hfz34_12
                      try clear hfz34_13
                      try clear hfz34_14
                      try clear hfz34_15
                      try clear hfz34_16
                      try clear hfz34_17
                      try clear hfz34_18
                      try clear hfz34_19
                      try clear hfz34_2
                      try clear hfz34_20
                      try clear hfz34_3
                      try clear hfz34_4
                      try clear hfz34_5
                      try clear hfz34_6
                      try clear hfz34_7
                      try clear hfz34_8
                      try clear hfz34_9
                      try clear p2
                      obtain ⟨kq, x7_35, rfl, HA, HJ35, BK174, BK175, HB⟩ := hcut
                      cases kq with
                      | zero => exact absurd HA.out (by simp [sprlaw14_CcTurns.j2])
                      | succ kj35 =>
                        have H := HA.out
                        clear HA
                        simp only [sprlaw14_CcTurns.j2] at H
                        by_cases c39 : 0 ≤ x9_2
                        · rw [if_pos c39] at H
                          have c39b0 : decide (0 ≤ x9_2) = true := decide_eq_true c39
                          clear c39
                          by_cases c40 : x9_2 < (l0.length : Int)
                          · rw [if_pos c40] at H
                            have c40b0 : decide (x9_2 < (l0.length : Int)) = true := decide_eq_true c40
                            clear c40
                            by_cases c41 : x7_35.size + (rdOf ByteArray.empty l0 x9_2).size ≤ 9223372036854775807
                            · rw [if_pos c41] at H
                              have c41b0 := eq_true c41
                              have c41b1 : decide (x7_35.size + (rdOf ByteArray.empty l0 x9_2).size ≤ 9223372036854775807) = true := decide_eq_true c41
                              try have c41b2 : (9223372036854775807 < x7_35.size + (rdOf ByteArray.empty l0 x9_2).size) = False := eq_false (Nat.not_lt.2 c41)
                              have H' := Aside0.mk H
                              clear H
                              have p222 : 0 ≤ (x9_2 : Int) := of_decide_eq_true (by first | (with_reducible assumption) | assumption)
                              have q222 : x9_2 < (l0.length : Int) := of_decide_eq_true (by first | (with_reducible assumption) | assumption)
                              obtain ⟨ad222, e222, hx222_0⟩ := Kd.at_string HR0.out x9_2 p222 q222
                              cases e222
                              replace hx222_0 := (HB.out.cell (World.block_lt_of_cell? w _ hx222_0)).trans hx222_0
                              replace p222 := eq_true p222
                              replace q222 := eq_true q222
                              go_wp2
                              go_loopg [8, 10] kj35 (fun kq v8 v10 w' => ∃ (x8_4 : Bool) (x10_4 : Int), v8 = .bool x8_4 ∧ v10 = .int .i64 x10_4 ∧ Aside0 (sprlaw14_CcTurns.l1 kq l0 (x7_35 ++ (rdOf ByteArray.empty l0 x9_2)) x8_4 x9_2 x10_4 t126 t127 t128 t129 t130 t131 t132 t133 t134 t135 t136 t137 t138 t139 t140 t141 t142 t143 t144 t145 t146 t153 t154 t155 t156 t157 t158 t159 t160 t161 t162 t163 t164 t165 t166 t167 t168 t169 t170 t171 t172 t173 = some r) ∧ Aside0 (kq ≤ kj35) ∧ Aside0 (w'.heap[gb174]? = some (.cells #[.bool t126, .bool t127, .bool t128, .bool t129, .bool t130, .bool t131, .bool t132, .bool t133, .bool t134, .bool t135, .bool t136, .bool t137, .int .i64 t138, .bool t139, .int .i64 t140, .bool t141, .int .i64 t142, .bool t143, .int .i64 t144, .bool t145, .int .i64 t146] 35 (0, 0))) ∧ Aside0 (w'.heap[gb175]? = some (.cells #[.bool t153, .bool t154, .bool t155, .bool t156, .bool t157, .bool t158, .bool t159, .bool t160, .bool t161, .bool t162, .bool t163, .bool t164, .int .i64 t165, .bool t166, .int .i64 t167, .bool t168, .int .i64 t169, .bool t170, .int .i64 t171, .bool t172, .int .i64 t173] 35 (0, 0))) ∧ Aside0 (Below w.heap.size w w'))
                              case atStart => exact ⟨(x8_2), (0), (by first | rfl | (simp; done) | (simp [*]; done)), (by first | rfl | (simp; done) | (simp [*]; done)), H', ⟨Nat.le_refl _⟩, ⟨by (with_reducible repeat (first | refine blk_drewN ?_ _ | refine blk_drew ?_ | refine blk_alloc ?_ _)); exact BK174.out⟩, ⟨by (with_reducible repeat (first | refine blk_drewN ?_ _ | refine blk_drew ?_ | refine blk_alloc ?_ _)); exact BK175.out⟩, ⟨by repeat (first | (with_reducible first | exact HB.out | apply below_alloc | apply pw_below_drewN | apply below_drew1 | refine below_set ?_ GE174.out | refine below_set ?_ GE175.out) | exact HB.out)⟩⟩
                              case round =>
                                clear H'
                                try clear c1
                                try clear c2
                                try clear p2
                                try clear q2
                                try clear hx2
                                try clear c3
                                try clear c4
                                try clear c5
                                try clear c8
                                try clear c9
                                try clear c10
                                try clear c13
                                try clear c14
                                try clear c17
                                try clear c20
                                try clear p22
                                try clear q22
                                try clear hx22
                                try clear c32
                                try clear c35
                                try clear c35b0
                                try clear c37
                                try clear c37b0
                                try clear c38
                                try clear c38b0
                                try clear c38b1
                                try clear c38b2
                                try clear c39
                                try clear c39b0
                                try clear c40
                                try clear c40b0
                                try clear c41
                                try clear c41b0
                                try clear c41b1
                                try clear c41b2
                                try clear hcz33_0
                                try clear hcz33_1
                                try clear hcz33_10
                                try clear hcz33_11
                                try clear hcz33_12
                                try clear hcz33_13
                                try clear hcz33_14
                                try clear hcz33_15
                                try clear hcz33_16
                                try clear hcz33_17
                                try clear hcz33_18
                                try clear hcz33_19
                                try clear hcz33_2
                                try clear hcz33_20
                                try clear hcz33_3
                                try clear hcz33_4
                                try clear hcz33_5
                                try clear hcz33_6
                                try clear hcz33_7
                                try clear hcz33_8
                                try clear hcz33_9
                                try clear hcz34_0
                                try clear hcz34_1
                                try clear hcz34_10
                                try clear hcz34_11
                                try clear hcz34_12
                                try clear hcz34_13
                                try clear hcz34_14
                                try clear hcz34_15
                                try clear hcz34_16
                                try clear hcz34_17
                                try clear hcz34_18
                                try clear hcz34_19
                                try clear hcz34_2
                                try clear hcz34_20
                                try clear hcz34_3
                                try clear hcz34_4
                                try clear hcz34_5
                                try clear hcz34_6
                                try clear hcz34_7
                                try clear hcz34_8
                                try clear hcz34_9
                                try clear hfz33_0
                                try clear hfz33_1
                                try clear hfz33_10
                                try clear hfz33_11
                                try clear hfz33_12
                                try clear hfz33_13
                                try clear hfz33_14
                                try clear hfz33_15
                                try clear hfz33_16
                                try clear hfz33_17
                                try clear hfz33_18
                                try clear hfz33_19
                                try clear hfz33_2
                                try clear hfz33_20
                                try clear hfz33_3
                                try clear hfz33_4
                                try clear hfz33_5
                                try clear hfz33_6
                                try clear hfz33_7
                                try clear hfz33_8
                                try clear hfz33_9
                                try clear hfz34_0
                                try clear hfz34_1
                                try clear hfz34_10
                                try clear hfz34_11
                                try clear hfz34_12
                                try clear hfz34_13
                                try clear hfz34_14
                                try clear hfz34_15
                                try clear hfz34_16
                                try clear hfz34_17
                                try clear hfz34_18
                                try clear hfz34_19
                                try clear hfz34_2
                                try clear hfz34_20
                                try clear hfz34_3
                                try clear hfz34_4
                                try clear hfz34_5
                                try clear hfz34_6
                                try clear hfz34_7
                                try clear hfz34_8
                                try clear hfz34_9
                                try clear hx222_0
                                try clear p2
                                try clear p222
                                try clear q222
                                obtain ⟨x8_4, x10_4, rfl, rfl, HA, HK4, BK174, BK175, HB⟩ := hrel
                                cases gk with
                                | zero => exact absurd HA.out (by simp [sprlaw14_CcTurns.l1])
                                | succ k4 =>
                                  have H := HA.out
                                  clear HA
                                  simp only [sprlaw14_CcTurns.l1] at H
                                  by_cases c42 : 0 ≤ x9_2
                                  · rw [if_pos c42] at H
                                    have c42b0 : decide (0 ≤ x9_2) = true := decide_eq_true c42
                                    clear c42
                                    by_cases c43 : x9_2 < (l0.length : Int)
                                    · rw [if_pos c43] at H
                                      have c43b0 : decide (x9_2 < (l0.length : Int)) = true := decide_eq_true c43
                                      clear c43
                                      by_cases c44 : x10_4 < ((rdOf ByteArray.empty l0 x9_2).size : Int)
                                      · rw [if_pos c44] at H
                                        have c44b0 : decide (x10_4 < ((rdOf ByteArray.empty l0 x9_2).size : Int)) = true := decide_eq_true c44
                                        clear c44
                                        by_cases c45 : x8_4 = true
                                        · subst c45
                                          have H1 : (sprlaw14_CcTurns.l1 k4 l0 (x7_35 ++ (rdOf ByteArray.empty l0 x9_2)) true x9_2 (wrap64 (x10_4 + 1)) t126 t127 t128 t129 t130 t131 t132 t133 t134 t135 t136 t137 t138 t139 t140 t141 t142 t143 t144 t145 t146 t153 t154 t155 t156 t157 t158 t159 t160 t161 t162 t163 t164 t165 t166 t167 t168 t169 t170 t171 t172 t173) = some r := by rw [if_pos rfl] at H; exact H
                                          clear H
                                          have H := H1
                                          clear H1
                                          have H' := Aside0.mk H
                                          clear H
                                          have p223 : 0 ≤ (x9_2 : Int) := of_decide_eq_true (by first | (with_reducible assumption) | assumption)
                                          have q223 : x9_2 < (l0.length : Int) := of_decide_eq_true (by first | (with_reducible assumption) | assumption)
                                          obtain ⟨ad223, e223, hx223_0⟩ := Kd.at_string HR0.out x9_2 p223 q223
                                          obtain rfl : ad222 = ad223 := (by injection e223)
                                          replace hx223_0 := (HB.out.cell (World.block_lt_of_cell? w _ hx223_0)).trans hx223_0
                                          replace p223 := eq_true p223
                                          replace q223 := eq_true q223
                                          go_wp2
                                          go_roundg k4
                                          case measure => have := HJ4.out; have := HK2.out; have := HJ35.out; have := HK4.out; omega
                                          case rel => exact ⟨(true), (wrap64 (x10_4 + 1)), (by first | rfl | (simp; done) | (simp [*]; done)), (by first | rfl | (simp; done) | (simp [*]; done)), H', ⟨by have := HJ4.out; have := HK2.out; have := HJ35.out; have := HK4.out; omega⟩, ⟨by (with_reducible repeat (first | refine blk_drewN ?_ _ | refine blk_drew ?_ | refine blk_alloc ?_ _)); exact BK174.out⟩, ⟨by (with_reducible repeat (first | refine blk_drewN ?_ _ | refine blk_drew ?_ | refine blk_alloc ?_ _)); exact BK175.out⟩, ⟨by repeat (first | (with_reducible first | exact HB.out | apply below_alloc | apply pw_below_drewN | apply below_drew1 | refine below_set ?_ GE174.out | refine below_set ?_ GE175.out) | exact HB.out)⟩⟩
                                        · replace c45 := Bool.eq_false_iff.mpr c45
                                          subst c45
                                          have H1 : (if 0 ≤ x10_4 then (sprlaw14_CcTurns.l1 k4 l0 (x7_35 ++ (rdOf ByteArray.empty l0 x9_2)) ((bt (rdOf ByteArray.empty l0 x9_2) x10_4) == 34) x9_2 (wrap64 (x10_4 + 1)) t126 t127 t128 t129 t130 t131 t132 t133 t134 t135 t136 t137 t138 t139 t140 t141 t142 t143 t144 t145 t146 t153 t154 t155 t156 t157 t158 t159 t160 t161 t162 t163 t164 t165 t166 t167 t168 t169 t170 t171 t172 t173) else (none)) = some r := by rw [if_neg (show ¬ (false = true) by decide)] at H; exact H
                                          clear H
                                          have H := H1
                                          clear H1
                                          by_cases c46 : 0 ≤ x10_4
                                          · rw [if_pos c46] at H
                                            have c46b0 : decide (0 ≤ x10_4) = true := decide_eq_true c46
                                            clear c46
                                            have H' := Aside0.mk H
                                            clear H
                                            have p223 : 0 ≤ (x9_2 : Int) := of_decide_eq_true (by first | (with_reducible assumption) | assumption)
                                            have q223 : x9_2 < (l0.length : Int) := of_decide_eq_true (by first | (with_reducible assumption) | assumption)
                                            obtain ⟨ad223, e223, hx223_0⟩ := Kd.at_string HR0.out x9_2 p223 q223
                                            obtain rfl : ad222 = ad223 := (by injection e223)
                                            replace hx223_0 := (HB.out.cell (World.block_lt_of_cell? w _ hx223_0)).trans hx223_0
                                            replace p223 := eq_true p223
                                            replace q223 := eq_true q223
                                            have p224 : 0 ≤ (x9_2 : Int) := of_decide_eq_true (by first | (with_reducible assumption) | assumption)
                                            have q224 : x9_2 < (l0.length : Int) := of_decide_eq_true (by first | (with_reducible assumption) | assumption)
                                            obtain ⟨ad224, e224, hx224_0⟩ := Kd.at_string HR0.out x9_2 p224 q224
                                            obtain rfl : ad222 = ad224 := (by injection e224)
                                            replace hx224_0 := (HB.out.cell (World.block_lt_of_cell? w _ hx224_0)).trans hx224_0
                                            replace p224 := eq_true p224
                                            replace q224 := eq_true q224
                                            have p47 : 0 ≤ (x10_4 : Int) := of_decide_eq_true (by first | (with_reducible assumption) | assumption)
                                            have q47 : x10_4 < ((rdOf ByteArray.empty l0 x9_2).size : Int) := of_decide_eq_true (by first | (with_reducible assumption) | assumption)
                                            have hx47 := bt_at (rdOf ByteArray.empty l0 x9_2) x10_4
                                            replace p47 := eq_true p47
                                            replace q47 := eq_true q47
                                            go_wp2
                                            go_roundg k4
                                            case measure => have := HJ4.out; have := HK2.out; have := HJ35.out; have := HK4.out; omega
                                            case rel => exact ⟨(((bt (rdOf ByteArray.empty l0 x9_2) x10_4) == 34)), (wrap64 (x10_4 + 1)), (by first | rfl | (simp; done) | (simp [*]; done)), (by first | rfl | (simp; done) | (simp [*]; done)), H', ⟨by have := HJ4.out; have := HK2.out; have := HJ35.out; have := HK4.out; omega⟩, ⟨by (with_reducible repeat (first | refine blk_drewN ?_ _ | refine blk_drew ?_ | refine blk_alloc ?_ _)); exact BK174.out⟩, ⟨by (with_reducible repeat (first | refine blk_drewN ?_ _ | refine blk_drew ?_ | refine blk_alloc ?_ _)); exact BK175.out⟩, ⟨by repeat (first | (with_reducible first | exact HB.out | apply below_alloc | apply pw_below_drewN | apply below_drew1 | refine below_set ?_ GE174.out | refine below_set ?_ GE175.out) | exact HB.out)⟩⟩
                                          · rw [if_neg c46] at H
                                            exact absurd H (by simp)
                                      · rw [if_neg c44] at H
                                        have c44b0 : decide (x10_4 < ((rdOf ByteArray.empty l0 x9_2).size : Int)) = false := decide_eq_false c44
                                        clear c44
                                        have H' := Aside0.mk H
                                        clear H
                                        have p223 : 0 ≤ (x9_2 : Int) := of_decide_eq_true (by first | (with_reducible assumption) | assumption)
                                        have q223 : x9_2 < (l0.length : Int) := of_decide_eq_true (by first | (with_reducible assumption) | assumption)
                                        obtain ⟨ad223, e223, hx223_0⟩ := Kd.at_string HR0.out x9_2 p223 q223
                                        obtain rfl : ad222 = ad223 := (by injection e223)
                                        replace hx223_0 := (HB.out.cell (World.block_lt_of_cell? w _ hx223_0)).trans hx223_0
                                        replace p223 := eq_true p223
                                        replace q223 := eq_true q223
                                        go_wp2
                                        go_roundg k4
                                        case measure => have := HJ4.out; have := HK2.out; have := HJ35.out; have := HK4.out; omega
                                        case rel => exact ⟨((x7_35 ++ (rdOf ByteArray.empty l0 x9_2))), (x8_4), (wrap64 (x9_2 + 1)), (by first | rfl | (simp; done) | (simp [*]; done)), (by first | rfl | (simp; done) | (simp [*]; done)), (by first | rfl | (simp; done) | (simp [*]; done)), H', ⟨by have := HJ4.out; have := HK2.out; have := HJ35.out; have := HK4.out; omega⟩, ⟨by (with_reducible repeat (first | refine blk_drewN ?_ _ | refine blk_drew ?_ | refine blk_alloc ?_ _)); exact BK174.out⟩, ⟨by (with_reducible repeat (first | refine blk_drewN ?_ _ | refine blk_drew ?_ | refine blk_alloc ?_ _)); exact BK175.out⟩, ⟨by repeat (first | (with_reducible first | exact HB.out | apply below_alloc | apply pw_below_drewN | apply below_drew1 | refine below_set ?_ GE174.out | refine below_set ?_ GE175.out) | exact HB.out)⟩⟩
                                    · rw [if_neg c43] at H
                                      exact absurd H (by simp)
                                  · rw [if_neg c42] at H
                                    exact absurd H (by simp)
                            · rw [if_neg c41] at H
                              exact absurd H (by simp)
                          · rw [if_neg c40] at H
                            exact absurd H (by simp)
                        · rw [if_neg c39] at H
                          exact absurd H (by simp)
                  · rw [if_neg c35] at H
                    have c35b0 : decide (x9_2 < (l0.length : Int)) = false := decide_eq_false c35
                    clear c35
                    replace H := Option.bind_eq_some_iff.mp H
                    obtain ⟨t176, A480, H⟩ := H
                    replace H : (if t176 = true then (if (t126 == t153 && (t127 == t154 && (t128 == t155 && (t129 == t156 && (t130 == t157 && (t131 == t158 && (t132 == t159 && (t133 == t160 && (t134 == t161 && (t135 == t162 && (t136 == t163 && ((t137 == t164 && (t138 == t165)) && ((t139 == t166 && (t140 == t167)) && ((t141 == t168 && (t142 == t169)) && ((t143 == t170 && (t144 == t171)) && ((t145 == t172 && (t146 == t173)))))))))))))))))) = true then (if x8_2 = true then (some true) else ((cc_Parse.f k2 (([x7_2] : List ByteArray))).bind fun bt180 => ((cc_Parse.f k2 l0).bind fun bt201 => (some (bt180.1 == bt201.1 && (bt180.2.1 == bt201.2.1 && (bt180.2.2.1 == bt201.2.2.1 && (bt180.2.2.2.1 == bt201.2.2.2.1 && (bt180.2.2.2.2.1 == bt201.2.2.2.2.1 && (bt180.2.2.2.2.2.1 == bt201.2.2.2.2.2.1 && (bt180.2.2.2.2.2.2.1 == bt201.2.2.2.2.2.2.1 && (bt180.2.2.2.2.2.2.2.1 == bt201.2.2.2.2.2.2.2.1 && (bt180.2.2.2.2.2.2.2.2.1 == bt201.2.2.2.2.2.2.2.2.1 && (bt180.2.2.2.2.2.2.2.2.2.1 == bt201.2.2.2.2.2.2.2.2.2.1 && (bt180.2.2.2.2.2.2.2.2.2.2.1 == bt201.2.2.2.2.2.2.2.2.2.2.1 && ((bt180.2.2.2.2.2.2.2.2.2.2.2.1 == bt201.2.2.2.2.2.2.2.2.2.2.2.1 && (bt180.2.2.2.2.2.2.2.2.2.2.2.2.1 == bt201.2.2.2.2.2.2.2.2.2.2.2.2.1)) && ((bt180.2.2.2.2.2.2.2.2.2.2.2.2.2.1 == bt201.2.2.2.2.2.2.2.2.2.2.2.2.2.1 && (bt180.2.2.2.2.2.2.2.2.2.2.2.2.2.2.1 == bt201.2.2.2.2.2.2.2.2.2.2.2.2.2.2.1)) && ((bt180.2.2.2.2.2.2.2.2.2.2.2.2.2.2.2.1 == bt201.2.2.2.2.2.2.2.2.2.2.2.2.2.2.2.1 && (bt180.2.2.2.2.2.2.2.2.2.2.2.2.2.2.2.2.1 == bt201.2.2.2.2.2.2.2.2.2.2.2.2.2.2.2.2.1)) && ((bt180.2.2.2.2.2.2.2.2.2.2.2.2.2.2.2.2.2.1 == bt201.2.2.2.2.2.2.2.2.2.2.2.2.2.2.2.2.2.1 && (bt180.2.2.2.2.2.2.2.2.2.2.2.2.2.2.2.2.2.2.1 == bt201.2.2.2.2.2.2.2.2.2.2.2.2.2.2.2.2.2.2.1)) && ((bt180.2.2.2.2.2.2.2.2.2.2.2.2.2.2.2.2.2.2.2.1 == bt201.2.2.2.2.2.2.2.2.2.2.2.2.2.2.2.2.2.2.2.1 && (bt180.2.2.2.2.2.2.2.2.2.2.2.2.2.2.2.2.2.2.2.2 == bt201.2.2.2.2.2.2.2.2.2.2.2.2.2.2.2.2.2.2.2.2)))))))))))))))))))))) else (some false)) else (some false)) = some r := H
                    have A48 := Aside0.mk A480
                    clear A480
                    by_cases c49 : t176 = true
                    · subst c49
                      have H1 : (if (t126 == t153 && (t127 == t154 && (t128 == t155 && (t129 == t156 && (t130 == t157 && (t131 == t158 && (t132 == t159 && (t133 == t160 && (t134 == t161 && (t135 == t162 && (t136 == t163 && ((t137 == t164 && (t138 == t165)) && ((t139 == t166 && (t140 == t167)) && ((t141 == t168 && (t142 == t169)) && ((t143 == t170 && (t144 == t171)) && ((t145 == t172 && (t146 == t173)))))))))))))))))) = true then (if x8_2 = true then (some true) else ((cc_Parse.f k2 (([x7_2] : List ByteArray))).bind fun bt180 => ((cc_Parse.f k2 l0).bind fun bt201 => (some (bt180.1 == bt201.1 && (bt180.2.1 == bt201.2.1 && (bt180.2.2.1 == bt201.2.2.1 && (bt180.2.2.2.1 == bt201.2.2.2.1 && (bt180.2.2.2.2.1 == bt201.2.2.2.2.1 && (bt180.2.2.2.2.2.1 == bt201.2.2.2.2.2.1 && (bt180.2.2.2.2.2.2.1 == bt201.2.2.2.2.2.2.1 && (bt180.2.2.2.2.2.2.2.1 == bt201.2.2.2.2.2.2.2.1 && (bt180.2.2.2.2.2.2.2.2.1 == bt201.2.2.2.2.2.2.2.2.1 && (bt180.2.2.2.2.2.2.2.2.2.1 == bt201.2.2.2.2.2.2.2.2.2.1 && (bt180.2.2.2.2.2.2.2.2.2.2.1 == bt201.2.2.2.2.2.2.2.2.2.2.1 && ((bt180.2.2.2.2.2.2.2.2.2.2.2.1 == bt201.2.2.2.2.2.2.2.2.2.2.2.1 && (bt180.2.2.2.2.2.2.2.2.2.2.2.2.1 == bt201.2.2.2.2.2.2.2.2.2.2.2.2.1)) && ((bt180.2.2.2.2.2.2.2.2.2.2.2.2.2.1 == bt201.2.2.2.2.2.2.2.2.2.2.2.2.2.1 && (bt180.2.2.2.2.2.2.2.2.2.2.2.2.2.2.1 == bt201.2.2.2.2.2.2.2.2.2.2.2.2.2.2.1)) && ((bt180.2.2.2.2.2.2.2.2.2.2.2.2.2.2.2.1 == bt201.2.2.2.2.2.2.2.2.2.2.2.2.2.2.2.1 && (bt180.2.2.2.2.2.2.2.2.2.2.2.2.2.2.2.2.1 == bt201.2.2.2.2.2.2.2.2.2.2.2.2.2.2.2.2.1)) && ((bt180.2.2.2.2.2.2.2.2.2.2.2.2.2.2.2.2.2.1 == bt201.2.2.2.2.2.2.2.2.2.2.2.2.2.2.2.2.2.1 && (bt180.2.2.2.2.2.2.2.2.2.2.2.2.2.2.2.2.2.2.1 == bt201.2.2.2.2.2.2.2.2.2.2.2.2.2.2.2.2.2.2.1)) && ((bt180.2.2.2.2.2.2.2.2.2.2.2.2.2.2.2.2.2.2.2.1 == bt201.2.2.2.2.2.2.2.2.2.2.2.2.2.2.2.2.2.2.2.1 && (bt180.2.2.2.2.2.2.2.2.2.2.2.2.2.2.2.2.2.2.2.2 == bt201.2.2.2.2.2.2.2.2.2.2.2.2.2.2.2.2.2.2.2.2)))))))))))))))))))))) else (some false)) = some r := by rw [if_pos rfl] at H; exact H
                      clear H
                      have H := H1
                      clear H1
                      by_cases c50 : (t126 == t153 && (t127 == t154 && (t128 == t155 && (t129 == t156 && (t130 == t157 && (t131 == t158 && (t132 == t159 && (t133 == t160 && (t134 == t161 && (t135 == t162 && (t136 == t163 && ((t137 == t164 && (t138 == t165)) && ((t139 == t166 && (t140 == t167)) && ((t141 == t168 && (t142 == t169)) && ((t143 == t170 && (t144 == t171)) && ((t145 == t172 && (t146 == t173)))))))))))))))))) = true
                      · rw [if_pos c50] at H
                        (try (have c50s := c50; simp at c50s)); (try obtain ⟨c50s1, c50s2⟩ := c50s)
                        have c50b0 : (t126 == t153 && (t127 == t154 && (t128 == t155 && (t129 == t156 && (t130 == t157 && (t131 == t158 && (t132 == t159 && (t133 == t160 && (t134 == t161 && (t135 == t162 && (t136 == t163 && ((t137 == t164 && (t138 == t165)) && ((t139 == t166 && (t140 == t167)) && ((t141 == t168 && (t142 == t169)) && ((t143 == t170 && (t144 == t171)) && ((t145 == t172 && (t146 == t173)))))))))))))))))) = true := c50
                        (try (have c50b1 : decide (t126 = t153 && (t127 == t154 && (t128 == t155 && (t129 == t156 && (t130 == t157 && (t131 == t158 && (t132 == t159 && (t133 == t160 && (t134 == t161 && (t135 == t162 && (t136 == t163 && ((t137 == t164 && (t138 == t165)) && ((t139 == t166 && (t140 == t167)) && ((t141 == t168 && (t142 == t169)) && ((t143 == t170 && (t144 == t171)) && ((t145 == t172 && (t146 == t173)))))))))))))))))) = true := by simpa using c50))
                        (try (have c50b2 : (t126 == t153 && (t127 == t154 && (t128 == t155 && (t129 == t156 && (t130 == t157 && (t131 == t158 && (t132 == t159 && (t133 == t160 && (t134 == t161 && (t135 == t162 && (t136 == t163 && ((t137 == t164 && (t138 == t165)) && ((t139 == t166 && (t140 == t167)) && ((t141 == t168 && (t142 == t169)) && ((t143 == t170 && (t144 == t171)) && ((t145 == t172 && (t146 == t173)))))))))))))))))) = true := by simpa using c50))
                        clear c50
                        by_cases c51 : x8_2 = true
                        · subst c51
                          have H1 : (some true) = some r := by rw [if_pos rfl] at H; exact H
                          clear H
                          have H := H1
                          clear H1
                          obtain rfl := Option.some.inj H
                          go_wp2_with (first | ((try (refine gate_guard (by rfl) ?_; dsimp only)); refine wpList_load_row rfl 35 _ rfl gb174 rfl 35 _ (0, 0) _ BK174.out hu35 rfl (by kernel_rfl) ?_) | ((try (refine gate_guard (by rfl) ?_; dsimp only)); refine wpList_load_row rfl 35 _ rfl gb175 rfl 35 _ (0, 0) _ BK175.out hu35 rfl (by kernel_rfl) ?_) | ((with_reducible refine gate_callee (f := 8) rfl ?_); refine goesL_ (some 67) rfl rfl Tryd.func8 (by kernel_rfl) rfl #[] rfl (by (try simp only [List.map_toArray, List.map_cons, List.map_nil]); first | done | rfl | (simp only [List.length_drop, List.length_take]; rfl)) ?_; (with_reducible refine (sprlaw14_first.calls k2  true _ A48.out).mono ?_); rintro e w52 ⟨rfl, hb⟩; refine ⟨_, rfl, ?_⟩; have n0_ := Aside0.mk (blk_below (g := gb174) (o := .cells #[.bool t126, .bool t127, .bool t128, .bool t129, .bool t130, .bool t131, .bool t132, .bool t133, .bool t134, .bool t135, .bool t136, .bool t137, .int .i64 t138, .bool t139, .int .i64 t140, .bool t141, .int .i64 t142, .bool t143, .int .i64 t144, .bool t145, .int .i64 t146] 35 (0, 0)) (by (with_reducible repeat (first | refine blk_drewN ?_ _ | refine blk_drew ?_ | refine blk_alloc ?_ _)); exact BK174.out) hb); have n1_ := Aside0.mk (blk_below (g := gb175) (o := .cells #[.bool t153, .bool t154, .bool t155, .bool t156, .bool t157, .bool t158, .bool t159, .bool t160, .bool t161, .bool t162, .bool t163, .bool t164, .int .i64 t165, .bool t166, .int .i64 t167, .bool t168, .int .i64 t169, .bool t170, .int .i64 t171, .bool t172, .int .i64 t173] 35 (0, 0)) (by (with_reducible repeat (first | refine blk_drewN ?_ _ | refine blk_drew ?_ | refine blk_alloc ?_ _)); exact BK175.out) hb); have n2_ := Aside0.mk (below_step (by repeat (first | (with_reducible first | exact HB.out | apply below_alloc | apply pw_below_drewN | apply below_drew1 | refine below_set ?_ GE174.out | refine below_set ?_ GE175.out) | exact HB.out)) hb); clear BK174; clear BK175; clear HB; have BK174 := n0_; have BK175 := n1_; have HB := n2_; clear n0_ n1_ n2_; (try clear hb); (try clear hb2); (try clear hk); (try clear hi); have hnb53 := NB174_175.out; have hnc53 := NB175_174.out))
                          go_ret
                          exact ⟨by first | rfl | (simp [errW_none, errW_some] <;> rfl) | (simp [*, errW_none, errW_some] <;> rfl), by repeat (first | (with_reducible first | exact HB.out | apply below_alloc | apply pw_below_drewN | apply below_drew1 | refine below_set ?_ GE174.out | refine below_set ?_ GE175.out) | exact HB.out)⟩
                        · replace c51 := Bool.eq_false_iff.mpr c51
                          subst c51
                          have H1 : ((cc_Parse.f k2 (([x7_2] : List ByteArray))).bind fun bt180 => ((cc_Parse.f k2 l0).bind fun bt201 => (some (bt180.1 == bt201.1 && (bt180.2.1 == bt201.2.1 && (bt180.2.2.1 == bt201.2.2.1 && (bt180.2.2.2.1 == bt201.2.2.2.1 && (bt180.2.2.2.2.1 == bt201.2.2.2.2.1 && (bt180.2.2.2.2.2.1 == bt201.2.2.2.2.2.1 && (bt180.2.2.2.2.2.2.1 == bt201.2.2.2.2.2.2.1 && (bt180.2.2.2.2.2.2.2.1 == bt201.2.2.2.2.2.2.2.1 && (bt180.2.2.2.2.2.2.2.2.1 == bt201.2.2.2.2.2.2.2.2.1 && (bt180.2.2.2.2.2.2.2.2.2.1 == bt201.2.2.2.2.2.2.2.2.2.1 && (bt180.2.2.2.2.2.2.2.2.2.2.1 == bt201.2.2.2.2.2.2.2.2.2.2.1 && ((bt180.2.2.2.2.2.2.2.2.2.2.2.1 == bt201.2.2.2.2.2.2.2.2.2.2.2.1 && (bt180.2.2.2.2.2.2.2.2.2.2.2.2.1 == bt201.2.2.2.2.2.2.2.2.2.2.2.2.1)) && ((bt180.2.2.2.2.2.2.2.2.2.2.2.2.2.1 == bt201.2.2.2.2.2.2.2.2.2.2.2.2.2.1 && (bt180.2.2.2.2.2.2.2.2.2.2.2.2.2.2.1 == bt201.2.2.2.2.2.2.2.2.2.2.2.2.2.2.1)) && ((bt180.2.2.2.2.2.2.2.2.2.2.2.2.2.2.2.1 == bt201.2.2.2.2.2.2.2.2.2.2.2.2.2.2.2.1 && (bt180.2.2.2.2.2.2.2.2.2.2.2.2.2.2.2.2.1 == bt201.2.2.2.2.2.2.2.2.2.2.2.2.2.2.2.2.1)) && ((bt180.2.2.2.2.2.2.2.2.2.2.2.2.2.2.2.2.2.1 == bt201.2.2.2.2.2.2.2.2.2.2.2.2.2.2.2.2.2.1 && (bt180.2.2.2.2.2.2.2.2.2.2.2.2.2.2.2.2.2.2.1 == bt201.2.2.2.2.2.2.2.2.2.2.2.2.2.2.2.2.2.2.1)) && ((bt180.2.2.2.2.2.2.2.2.2.2.2.2.2.2.2.2.2.2.2.1 == bt201.2.2.2.2.2.2.2.2.2.2.2.2.2.2.2.2.2.2.2.1 && (bt180.2.2.2.2.2.2.2.2.2.2.2.2.2.2.2.2.2.2.2.2 == bt201.2.2.2.2.2.2.2.2.2.2.2.2.2.2.2.2.2.2.2.2))))))))))))))))))))) = some r := by rw [if_neg (show ¬ (false = true) by decide)] at H; exact H
                          clear H
                          have H := H1
                          clear H1
                          obtain ⟨y177, hy177⟩ : ∃ y_ : List ByteArray, y_ = (([x7_2] : List ByteArray)) := ⟨_, rfl⟩
                          replace H : ((cc_Parse.f k2 y177).bind fun bt180 => ((cc_Parse.f k2 l0).bind fun bt201 => (some (bt180.1 == bt201.1 && (bt180.2.1 == bt201.2.1 && (bt180.2.2.1 == bt201.2.2.1 && (bt180.2.2.2.1 == bt201.2.2.2.1 && (bt180.2.2.2.2.1 == bt201.2.2.2.2.1 && (bt180.2.2.2.2.2.1 == bt201.2.2.2.2.2.1 && (bt180.2.2.2.2.2.2.1 == bt201.2.2.2.2.2.2.1 && (bt180.2.2.2.2.2.2.2.1 == bt201.2.2.2.2.2.2.2.1 && (bt180.2.2.2.2.2.2.2.2.1 == bt201.2.2.2.2.2.2.2.2.1 && (bt180.2.2.2.2.2.2.2.2.2.1 == bt201.2.2.2.2.2.2.2.2.2.1 && (bt180.2.2.2.2.2.2.2.2.2.2.1 == bt201.2.2.2.2.2.2.2.2.2.2.1 && ((bt180.2.2.2.2.2.2.2.2.2.2.2.1 == bt201.2.2.2.2.2.2.2.2.2.2.2.1 && (bt180.2.2.2.2.2.2.2.2.2.2.2.2.1 == bt201.2.2.2.2.2.2.2.2.2.2.2.2.1)) && ((bt180.2.2.2.2.2.2.2.2.2.2.2.2.2.1 == bt201.2.2.2.2.2.2.2.2.2.2.2.2.2.1 && (bt180.2.2.2.2.2.2.2.2.2.2.2.2.2.2.1 == bt201.2.2.2.2.2.2.2.2.2.2.2.2.2.2.1)) && ((bt180.2.2.2.2.2.2.2.2.2.2.2.2.2.2.2.1 == bt201.2.2.2.2.2.2.2.2.2.2.2.2.2.2.2.1 && (bt180.2.2.2.2.2.2.2.2.2.2.2.2.2.2.2.2.1 == bt201.2.2.2.2.2.2.2.2.2.2.2.2.2.2.2.2.1)) && ((bt180.2.2.2.2.2.2.2.2.2.2.2.2.2.2.2.2.2.1 == bt201.2.2.2.2.2.2.2.2.2.2.2.2.2.2.2.2.2.1 && (bt180.2.2.2.2.2.2.2.2.2.2.2.2.2.2.2.2.2.2.1 == bt201.2.2.2.2.2.2.2.2.2.2.2.2.2.2.2.2.2.2.1)) && ((bt180.2.2.2.2.2.2.2.2.2.2.2.2.2.2.2.2.2.2.2.1 == bt201.2.2.2.2.2.2.2.2.2.2.2.2.2.2.2.2.2.2.2.1 && (bt180.2.2.2.2.2.2.2.2.2.2.2.2.2.2.2.2.2.2.2.2 == bt201.2.2.2.2.2.2.2.2.2.2.2.2.2.2.2.2.2.2.2.2))))))))))))))))))))) = some r := by first | (rw [hy177]; with_reducible exact H) | (have H2_ := (Option.bind_some _ _).symm.trans H; rw [hy177]; with_reducible exact H2_) | (have H2_ := (Option.bind_some _ _).symm.trans H; with_reducible exact H2_) | with_reducible exact H | (rw [hy177]; exact H) | exact H
                          have Ny177 := Aside0.mk hy177
                          clear hy177
                          replace H := Option.bind_eq_some_iff.mp H
                          obtain ⟨⟨t180, t181, t182, t183, t184, t185, t186, t187, t188, t189, t190, t191, t192, t193, t194, t195, t196, t197, t198, t199, t200⟩, A560, H⟩ := H
                          replace H : ((cc_Parse.f k2 l0).bind fun bt201 => (some (t180 == bt201.1 && (t181 == bt201.2.1 && (t182 == bt201.2.2.1 && (t183 == bt201.2.2.2.1 && (t184 == bt201.2.2.2.2.1 && (t185 == bt201.2.2.2.2.2.1 && (t186 == bt201.2.2.2.2.2.2.1 && (t187 == bt201.2.2.2.2.2.2.2.1 && (t188 == bt201.2.2.2.2.2.2.2.2.1 && (t189 == bt201.2.2.2.2.2.2.2.2.2.1 && (t190 == bt201.2.2.2.2.2.2.2.2.2.2.1 && ((t191 == bt201.2.2.2.2.2.2.2.2.2.2.2.1 && (t192 == bt201.2.2.2.2.2.2.2.2.2.2.2.2.1)) && ((t193 == bt201.2.2.2.2.2.2.2.2.2.2.2.2.2.1 && (t194 == bt201.2.2.2.2.2.2.2.2.2.2.2.2.2.2.1)) && ((t195 == bt201.2.2.2.2.2.2.2.2.2.2.2.2.2.2.2.1 && (t196 == bt201.2.2.2.2.2.2.2.2.2.2.2.2.2.2.2.2.1)) && ((t197 == bt201.2.2.2.2.2.2.2.2.2.2.2.2.2.2.2.2.2.1 && (t198 == bt201.2.2.2.2.2.2.2.2.2.2.2.2.2.2.2.2.2.2.1)) && ((t199 == bt201.2.2.2.2.2.2.2.2.2.2.2.2.2.2.2.2.2.2.2.1 && (t200 == bt201.2.2.2.2.2.2.2.2.2.2.2.2.2.2.2.2.2.2.2.2)))))))))))))))))))) = some r := H
                          have A56 := Aside0.mk A560
                          clear A560
                          replace H := Option.bind_eq_some_iff.mp H
                          obtain ⟨⟨t201, t202, t203, t204, t205, t206, t207, t208, t209, t210, t211, t212, t213, t214, t215, t216, t217, t218, t219, t220, t221⟩, A570, H⟩ := H
                          replace H : (some (t180 == t201 && (t181 == t202 && (t182 == t203 && (t183 == t204 && (t184 == t205 && (t185 == t206 && (t186 == t207 && (t187 == t208 && (t188 == t209 && (t189 == t210 && (t190 == t211 && ((t191 == t212 && (t192 == t213)) && ((t193 == t214 && (t194 == t215)) && ((t195 == t216 && (t196 == t217)) && ((t197 == t218 && (t198 == t219)) && ((t199 == t220 && (t200 == t221))))))))))))))))))) = some r := H
                          have A57 := Aside0.mk A570
                          clear A570
                          obtain rfl := Option.some.inj H
                          go_wp2_with (first | ((try (refine gate_guard (by rfl) ?_; dsimp only)); refine wpList_load_row rfl 35 _ rfl gb174 rfl 35 _ (0, 0) _ BK174.out hu35 rfl (by kernel_rfl) ?_) | ((try (refine gate_guard (by rfl) ?_; dsimp only)); refine wpList_load_row rfl 35 _ rfl gb175 rfl 35 _ (0, 0) _ BK175.out hu35 rfl (by kernel_rfl) ?_) | ((with_reducible refine gate_callee (f := 8) rfl ?_); refine goesL_ (some 67) rfl rfl Tryd.func8 (by kernel_rfl) rfl #[] rfl (by (try simp only [List.map_toArray, List.map_cons, List.map_nil]); first | done | rfl | (simp only [List.length_drop, List.length_take]; rfl)) ?_; (with_reducible refine (sprlaw14_first.calls k2  true _ A48.out).mono ?_); rintro e w58 ⟨rfl, hb⟩; refine ⟨_, rfl, ?_⟩; have n0_ := Aside0.mk (blk_below (g := gb174) (o := .cells #[.bool t126, .bool t127, .bool t128, .bool t129, .bool t130, .bool t131, .bool t132, .bool t133, .bool t134, .bool t135, .bool t136, .bool t137, .int .i64 t138, .bool t139, .int .i64 t140, .bool t141, .int .i64 t142, .bool t143, .int .i64 t144, .bool t145, .int .i64 t146] 35 (0, 0)) (by (with_reducible repeat (first | refine blk_drewN ?_ _ | refine blk_drew ?_ | refine blk_alloc ?_ _)); exact BK174.out) hb); have n1_ := Aside0.mk (blk_below (g := gb175) (o := .cells #[.bool t153, .bool t154, .bool t155, .bool t156, .bool t157, .bool t158, .bool t159, .bool t160, .bool t161, .bool t162, .bool t163, .bool t164, .int .i64 t165, .bool t166, .int .i64 t167, .bool t168, .int .i64 t169, .bool t170, .int .i64 t171, .bool t172, .int .i64 t173] 35 (0, 0)) (by (with_reducible repeat (first | refine blk_drewN ?_ _ | refine blk_drew ?_ | refine blk_alloc ?_ _)); exact BK175.out) hb); have n2_ := Aside0.mk (below_step (by repeat (first | (with_reducible first | exact HB.out | apply below_alloc | apply pw_below_drewN | apply below_drew1 | refine below_set ?_ GE174.out | refine below_set ?_ GE175.out) | exact HB.out)) hb); clear BK174; clear BK175; clear HB; have BK174 := n0_; have BK175 := n1_; have HB := n2_; clear n0_ n1_ n2_; (try clear hb); (try clear hb2); (try clear hk); (try clear hi); have hnb59 := NB174_175.out; have hnc59 := NB175_174.out) | ((with_reducible refine gate_dst (N := 77) rfl ?_); (try (refine gate_guard (by rfl) ?_; dsimp only)); refine Kd.R_lit Kd.string _ 9 ?hg (N := 77) ?hd (xs := ([x7_2] : List ByteArray)) (inner := [.string x7_2]) (ok := fun _ => True) (okp := fun _ => True) ?hr ?hp (fun _ hk => hk) trivial (Below.refl _ _) (Nat.le_refl _) (by simp) ?_; (case hd => rfl); (case hg => rfl); (case hr => first | (go_simp; done) | (go_simp; rfl)); (case hp => exact (Reps.one (show Kd.M Kd.string _ _ _ x7_2 [.string x7_2] from rfl) (Reps.none _ _))); intro v178 w62 ho63 hb hg_ hnew_; clear hg_ hnew_; (first | rw [← Ny177.out] at ho63 | (simp only [Int.reduceToNat] at ho63; rw [← Ny177.out] at ho63)); have n0_ := Aside0.mk (Kd.R_lower ho63 (below_size (by repeat (first | (with_reducible first | exact HB.out | apply below_alloc | apply pw_below_drewN | apply below_drew1 | refine below_set ?_ GE174.out | refine below_set ?_ GE175.out) | exact HB.out)))); have n1_ := Aside0.mk (blk_below (g := gb174) (o := .cells #[.bool t126, .bool t127, .bool t128, .bool t129, .bool t130, .bool t131, .bool t132, .bool t133, .bool t134, .bool t135, .bool t136, .bool t137, .int .i64 t138, .bool t139, .int .i64 t140, .bool t141, .int .i64 t142, .bool t143, .int .i64 t144, .bool t145, .int .i64 t146] 35 (0, 0)) (by (with_reducible repeat (first | refine blk_drewN ?_ _ | refine blk_drew ?_ | refine blk_alloc ?_ _)); exact BK174.out) hb); have n2_ := Aside0.mk (blk_below (g := gb175) (o := .cells #[.bool t153, .bool t154, .bool t155, .bool t156, .bool t157, .bool t158, .bool t159, .bool t160, .bool t161, .bool t162, .bool t163, .bool t164, .int .i64 t165, .bool t166, .int .i64 t167, .bool t168, .int .i64 t169, .bool t170, .int .i64 t171, .bool t172, .int .i64 t173] 35 (0, 0)) (by (with_reducible repeat (first | refine blk_drewN ?_ _ | refine blk_drew ?_ | refine blk_alloc ?_ _)); exact BK175.out) hb); have n3_ := Aside0.mk (below_step (by repeat (first | (with_reducible first | exact HB.out | apply below_alloc | apply pw_below_drewN | apply below_drew1 | refine below_set ?_ GE174.out | refine below_set ?_ GE175.out) | exact HB.out)) hb); clear BK174; clear BK175; clear HB; have HO179 := n0_; have BK174 := n1_; have BK175 := n2_; have HB := n3_; clear n0_ n1_ n2_ n3_; clear hb ho63; obtain ⟨Ao64, co64, eo64⟩ := Kd.R_slice HO179.out; subst eo64) | (go_at_call 14; (with_reducible refine (cc_Parse.calls k2 _ _ y177 t180 t181 t182 t183 t184 t185 t186 t187 t188 t189 t190 t191 t192 t193 t194 t195 t196 t197 t198 t199 t200 _ ?side1 ?side2 A56.out).mono ?_); (case side1 => repeat (first | exact (Kd.R_reads' HO179.out).2.2 | (with_reducible refine Kd.C_alloc ?_ _) | (with_reducible refine Kd.C_drewN ?_ _) | (with_reducible refine Kd.C_drew ?_))); (case side2 => exact (Kd.R_reads' HO179.out).2.1); rintro e w65 ⟨rfl, hb⟩; have n0_ := Aside0.mk (Kd.R_below (by (with_reducible repeat (first | apply Kd.R_alloc | apply Kd.R_drewN | apply Kd.R_drew)); exact HO179.out) hb); have n1_ := Aside0.mk (blk_below (g := gb174) (o := .cells #[.bool t126, .bool t127, .bool t128, .bool t129, .bool t130, .bool t131, .bool t132, .bool t133, .bool t134, .bool t135, .bool t136, .bool t137, .int .i64 t138, .bool t139, .int .i64 t140, .bool t141, .int .i64 t142, .bool t143, .int .i64 t144, .bool t145, .int .i64 t146] 35 (0, 0)) (by (with_reducible repeat (first | refine blk_drewN ?_ _ | refine blk_drew ?_ | refine blk_alloc ?_ _)); exact BK174.out) hb); have n2_ := Aside0.mk (blk_below (g := gb175) (o := .cells #[.bool t153, .bool t154, .bool t155, .bool t156, .bool t157, .bool t158, .bool t159, .bool t160, .bool t161, .bool t162, .bool t163, .bool t164, .int .i64 t165, .bool t166, .int .i64 t167, .bool t168, .int .i64 t169, .bool t170, .int .i64 t171, .bool t172, .int .i64 t173] 35 (0, 0)) (by (with_reducible repeat (first | refine blk_drewN ?_ _ | refine blk_drew ?_ | refine blk_alloc ?_ _)); exact BK175.out) hb); have n3_ := Aside0.mk (below_step (by repeat (first | (with_reducible first | exact HB.out | apply below_alloc | apply pw_below_drewN | apply below_drew1 | refine below_set ?_ GE174.out | refine below_set ?_ GE175.out) | exact HB.out)) hb); clear HO179; clear BK174; clear BK175; clear HB; have HO179 := n0_; have BK174 := n1_; have BK175 := n2_; have HB := n3_; clear n0_ n1_ n2_ n3_; (try clear hb); (try clear hb2); (try clear hk); (try clear hi)) | (go_at_call 14; (with_reducible refine (cc_Parse.calls k2 _ _ l0 t201 t202 t203 t204 t205 t206 t207 t208 t209 t210 t211 t212 t213 t214 t215 t216 t217 t218 t219 t220 t221 _ ?side1 ?side2 A57.out).mono ?_); (case side1 => repeat (first | exact (Kd.C_below HR0.out HB.out) | (with_reducible refine Kd.C_alloc ?_ _) | (with_reducible refine Kd.C_drewN ?_ _) | (with_reducible refine Kd.C_drew ?_))); (case side2 => exact HC0.out); rintro e w66 ⟨rfl, hb⟩; have n0_ := Aside0.mk (Kd.R_below (by (with_reducible repeat (first | apply Kd.R_alloc | apply Kd.R_drewN | apply Kd.R_drew)); exact HO179.out) hb); have n1_ := Aside0.mk (blk_below (g := gb174) (o := .cells #[.bool t126, .bool t127, .bool t128, .bool t129, .bool t130, .bool t131, .bool t132, .bool t133, .bool t134, .bool t135, .bool t136, .bool t137, .int .i64 t138, .bool t139, .int .i64 t140, .bool t141, .int .i64 t142, .bool t143, .int .i64 t144, .bool t145, .int .i64 t146] 35 (0, 0)) (by (with_reducible repeat (first | refine blk_drewN ?_ _ | refine blk_drew ?_ | refine blk_alloc ?_ _)); exact BK174.out) hb); have n2_ := Aside0.mk (blk_below (g := gb175) (o := .cells #[.bool t153, .bool t154, .bool t155, .bool t156, .bool t157, .bool t158, .bool t159, .bool t160, .bool t161, .bool t162, .bool t163, .bool t164, .int .i64 t165, .bool t166, .int .i64 t167, .bool t168, .int .i64 t169, .bool t170, .int .i64 t171, .bool t172, .int .i64 t173] 35 (0, 0)) (by (with_reducible repeat (first | refine blk_drewN ?_ _ | refine blk_drew ?_ | refine blk_alloc ?_ _)); exact BK175.out) hb); have n3_ := Aside0.mk (below_step (by repeat (first | (with_reducible first | exact HB.out | apply below_alloc | apply pw_below_drewN | apply below_drew1 | refine below_set ?_ GE174.out | refine below_set ?_ GE175.out) | exact HB.out)) hb); clear HO179; clear BK174; clear BK175; clear HB; have HO179 := n0_; have BK174 := n1_; have BK175 := n2_; have HB := n3_; clear n0_ n1_ n2_ n3_; (try clear hb); (try clear hb2); (try clear hk); (try clear hi)))
                          go_ret
                          exact ⟨by first | rfl | (simp [errW_none, errW_some] <;> rfl) | (simp [*, errW_none, errW_some] <;> rfl), by repeat (first | (with_reducible first | exact HB.out | apply below_alloc | apply pw_below_drewN | apply below_drew1 | refine below_set ?_ GE174.out | refine below_set ?_ GE175.out) | exact HB.out)⟩
                      · rw [if_neg c50] at H
                        have c50b0 : (t126 == t153 && (t127 == t154 && (t128 == t155 && (t129 == t156 && (t130 == t157 && (t131 == t158 && (t132 == t159 && (t133 == t160 && (t134 == t161 && (t135 == t162 && (t136 == t163 && ((t137 == t164 && (t138 == t165)) && ((t139 == t166 && (t140 == t167)) && ((t141 == t168 && (t142 == t169)) && ((t143 == t170 && (t144 == t171)) && ((t145 == t172 && (t146 == t173)))))))))))))))))) = false := by simpa using c50
                        (try (have c50b1 : decide (t126 = t153 && (t127 == t154 && (t128 == t155 && (t129 == t156 && (t130 == t157 && (t131 == t158 && (t132 == t159 && (t133 == t160 && (t134 == t161 && (t135 == t162 && (t136 == t163 && ((t137 == t164 && (t138 == t165)) && ((t139 == t166 && (t140 == t167)) && ((t141 == t168 && (t142 == t169)) && ((t143 == t170 && (t144 == t171)) && ((t145 == t172 && (t146 == t173)))))))))))))))))) = false := by simpa using c50))
                        (try (have c50b2 : (t126 == t153 && (t127 == t154 && (t128 == t155 && (t129 == t156 && (t130 == t157 && (t131 == t158 && (t132 == t159 && (t133 == t160 && (t134 == t161 && (t135 == t162 && (t136 == t163 && ((t137 == t164 && (t138 == t165)) && ((t139 == t166 && (t140 == t167)) && ((t141 == t168 && (t142 == t169)) && ((t143 == t170 && (t144 == t171)) && ((t145 == t172 && (t146 == t173)))))))))))))))))) = false := by simpa using c50))
                        (try (have c50b3 : ¬ (t126 = t153 && (t127 == t154 && (t128 == t155 && (t129 == t156 && (t130 == t157 && (t131 == t158 && (t132 == t159 && (t133 == t160 && (t134 == t161 && (t135 == t162 && (t136 == t163 && ((t137 == t164 && (t138 == t165)) && ((t139 == t166 && (t140 == t167)) && ((t141 == t168 && (t142 == t169)) && ((t143 == t170 && (t144 == t171)) && ((t145 == t172 && (t146 == t173)))))))))))))))))) := by simpa using c50))
                        clear c50
                        exact absurd ((Option.some.inj H).trans hT.out) (by decide)
                    · replace c49 := Bool.eq_false_iff.mpr c49
                      subst c49
                      have H1 : (some false) = some r := by rw [if_neg (show ¬ (false = true) by decide)] at H; exact H
                      clear H
                      have H := H1
                      clear H1
                      exact absurd ((Option.some.inj H).trans hT.out) (by decide)
            · rw [if_neg c20] at H
              exact absurd H (by simp)
          · rw [if_neg c17] at H
            exact absurd H (by simp)
  · replace c4 := Bool.eq_false_iff.mpr c4
    subst c4
    have H1 : (some false) = some r := by rw [if_neg (show ¬ (false = true) by decide)] at H; exact H
    clear H
    have H := H1
    clear H1
    exact absurd ((Option.some.inj H).trans hT.out) (by decide)

end Go.Proofs.YtifchklfomddhaaDoor.Q
