-- Written by a program of this session's (wip/xprint.py), out of the seat's translation.
import Derived.Test.YtnkmhgfhdgledaaDoorQ0
import Derived.Test.YtnkmhgfhdgledaaDoorQ6
import Derived.Test.YtnkmhgfhdgledaaDoorQ7
import Derived.Test.YtnkmhgfhdgledaaDoorQ8
namespace Go.Proofs.YtnkmhgfhdgledaaDoor.Q
open Go.RowKit Go.Proofs.YtnkmhgfhdgledaaDoorW.PrintWords Go.Proofs.YtnkmhgfhdgledaaDoorW.PrintLast Go.Proofs.YtnkmhgfhdgledaaDoorW.PrintMore
attribute [local go_sem] max2_int min2_int max_two min_two max_three min_three max_four min_four   -- for this text's walks alone
set_option linter.unusedVariables false
set_option linter.unusedSimpArgs false

open Go.Proofs.YtnkmhgfhdgledaaDoor.Own (Y Z sA sB sC)
/-! ### sprref14_ParseDate: function 11 -/
mutual
def sprref14_ParseDate.j0 : Nat → ByteArray → Int → Bool → Option (Int × Int)
 | 0, _, _, _ => none
 | k + 1, x0, x1, x45 => if x45 = true then (if 12 ≤ 16 then (if 16 ≤ (x0.size : Int) then ((sprref14_digits.f k (x0.extract 12 16) 4).bind fun t293 => ((sprref14_months.f).bind fun t294 => (if 8 ≤ 11 then (if 11 ≤ (x0.size : Int) then ((sprref14_place.f k t294 (x0.extract 8 11)).bind fun t297 => (if 5 ≤ 7 then (if 7 ≤ (x0.size : Int) then ((sprref14_digits.f k (x0.extract 5 7) 2).bind fun t298 => (if 17 ≤ 25 then (if 25 ≤ (x0.size : Int) then ((sprref14_made.f k t293 t297 t298 (x0.extract 17 25)).bind fun bt299 => (some (bt299.1, bt299.2))) else (none)) else (none))) else (none)) else (none))) else (none)) else (none)))) else (none)) else (none)) else (if (x0.size : Int) = 24 then (if 3 < (x0.size : Int) then (if (bt x0 3) = 32 then (if 7 < (x0.size : Int) then (if (bt x0 7) = 32 then (if 10 < (x0.size : Int) then (if (bt x0 10) = 32 then (if 19 < (x0.size : Int) then (if (bt x0 19) = 32 then ((sprref14_days.f).bind fun t301 => (if 0 ≤ 3 then (if 3 ≤ (x0.size : Int) then ((sprref14_place.f k t301 (x0.extract 0 3)).bind fun t304 => (sprref14_ParseDate.j1 k x0 x1 (decide (t304 ≥ 0)))) else (none)) else (none))) else (sprref14_ParseDate.j1 k x0 x1 false)) else (none)) else (sprref14_ParseDate.j1 k x0 x1 false)) else (none)) else (sprref14_ParseDate.j1 k x0 x1 false)) else (none)) else (sprref14_ParseDate.j1 k x0 x1 false)) else (none)) else (sprref14_ParseDate.j1 k x0 x1 false))
def sprref14_ParseDate.j1 : Nat → ByteArray → Int → Bool → Option (Int × Int)
 | 0, _, _, _ => none
 | k + 1, x0, x1, x90 => if x90 = true then (if 8 ≤ 10 then (if 10 ≤ (x0.size : Int) then ((sprref14_digits.f k (x0.extract 8 10) 2).bind fun t305 => (if 8 < (x0.size : Int) then (if (bt x0 8) = 32 then (if 9 ≤ 10 then ((sprref14_digits.f k (x0.extract 9 10) 1).bind fun t306 => (sprref14_ParseDate.j2 k x0 t306)) else (none)) else (sprref14_ParseDate.j2 k x0 t305)) else (none))) else (none)) else (none)) else (sprref14_ParseDate.l0 k x0 x1 0)
def sprref14_ParseDate.j2 : Nat → ByteArray → Int → Option (Int × Int)
 | 0, _, _ => none
 | k + 1, x0, x6 => if 20 ≤ (x0.size : Int) then ((sprref14_digits.f k (x0.extract 20 x0.size) 4).bind fun t307 => ((sprref14_months.f).bind fun t308 => (if 4 ≤ 7 then (if 7 ≤ (x0.size : Int) then ((sprref14_place.f k t308 (x0.extract 4 7)).bind fun t311 => (if 11 ≤ 19 then (if 19 ≤ (x0.size : Int) then ((sprref14_made.f k t307 t311 x6 (x0.extract 11 19)).bind fun bt312 => (some (bt312.1, bt312.2))) else (none)) else (none))) else (none)) else (none)))) else (none)
def sprref14_ParseDate.j4 : Nat → ByteArray → Int → Int → Option (Int × Int)
 | 0, _, _, _ => none
 | k + 1, x0, x1, x7 => if x7 < (x0.size : Int) then ((sprref14_longs.f).bind fun t314 => (if 0 ≤ x7 then (if x7 ≤ (x0.size : Int) then ((sprref14_place.f k t314 (x0.extract 0 (x7 : Int).toNat)).bind fun t317 => (sprref14_ParseDate.j5 k x0 x1 x7 (decide (t317 ≥ 0)))) else (none)) else (none))) else (sprref14_ParseDate.j5 k x0 x1 x7 false)
def sprref14_ParseDate.j5 : Nat → ByteArray → Int → Int → Bool → Option (Int × Int)
 | 0, _, _, _, _ => none
 | k + 1, x0, x1, x7, x136 => if x136 = true then (if 0 ≤ x7 then (if x7 ≤ (x0.size : Int) then (if ((x0.extract (x7 : Int).toNat x0.size).size : Int) = 24 then (if 1 < ((x0.extract (x7 : Int).toNat x0.size).size : Int) then (if (bt (x0.extract (x7 : Int).toNat x0.size) 1) = 32 then (if 4 < ((x0.extract (x7 : Int).toNat x0.size).size : Int) then (if (bt (x0.extract (x7 : Int).toNat x0.size) 4) = 45 then (if 8 < ((x0.extract (x7 : Int).toNat x0.size).size : Int) then (if (bt (x0.extract (x7 : Int).toNat x0.size) 8) = 45 then (if 11 < ((x0.extract (x7 : Int).toNat x0.size).size : Int) then (if (bt (x0.extract (x7 : Int).toNat x0.size) 11) = 32 then (if 20 ≤ ((x0.extract (x7 : Int).toNat x0.size).size : Int) then (sprref14_ParseDate.j6 k x1 (x0.extract (x7 : Int).toNat x0.size) (((x0.extract (x7 : Int).toNat x0.size).extract 20 (x0.extract (x7 : Int).toNat x0.size).size).toList == ([32, 71, 77, 84] : List UInt8))) else (none)) else (sprref14_ParseDate.j6 k x1 (x0.extract (x7 : Int).toNat x0.size) false)) else (none)) else (sprref14_ParseDate.j6 k x1 (x0.extract (x7 : Int).toNat x0.size) false)) else (none)) else (sprref14_ParseDate.j6 k x1 (x0.extract (x7 : Int).toNat x0.size) false)) else (none)) else (sprref14_ParseDate.j6 k x1 (x0.extract (x7 : Int).toNat x0.size) false)) else (none)) else (sprref14_ParseDate.j6 k x1 (x0.extract (x7 : Int).toNat x0.size) false)) else (none)) else (none)) else (some (0, 4))
def sprref14_ParseDate.j6 : Nat → Int → ByteArray → Bool → Option (Int × Int)
 | 0, _, _, _ => none
 | k + 1, x1, x8, x167 => if x167 = true then ((sprref14_in.f x1).bind fun t318 => (if t318 = true then ((sprref14_split.f k x1).bind fun bt319 => (sprref14_ParseDate.j7 k x8 bt319.1)) else (sprref14_ParseDate.j7 k x8 1970))) else (some (0, 4))
def sprref14_ParseDate.j7 : Nat → ByteArray → Int → Option (Int × Int)
 | 0, _, _ => none
 | k + 1, x8, x9 => if 9 ≤ 11 then (if 11 ≤ (x8.size : Int) then ((sprref14_digits.f k (x8.extract 9 11) 2).bind fun t323 => (if t323 ≥ 0 then ((sprref14_century.f k t323 x9).bind fun t324 => (sprref14_ParseDate.j8 k x8 t324)) else (sprref14_ParseDate.j8 k x8 t323))) else (none)) else (none)
def sprref14_ParseDate.j8 : Nat → ByteArray → Int → Option (Int × Int)
 | 0, _, _ => none
 | k + 1, x8, x10 => (sprref14_months.f).bind fun t325 => (if 5 ≤ 8 then (if 8 ≤ (x8.size : Int) then ((sprref14_place.f k t325 (x8.extract 5 8)).bind fun t328 => (if 2 ≤ 4 then (if 4 ≤ (x8.size : Int) then ((sprref14_digits.f k (x8.extract 2 4) 2).bind fun t329 => (if 12 ≤ 20 then (if 20 ≤ (x8.size : Int) then ((sprref14_made.f k x10 t328 t329 (x8.extract 12 20)).bind fun bt330 => (some (bt330.1, bt330.2))) else (none)) else (none))) else (none)) else (none))) else (none)) else (none))
def sprref14_ParseDate.l0 : Nat → ByteArray → Int → Int → Option (Int × Int)
 | 0, _, _, _ => none
 | k + 1, x0, x1, x7 => if x7 < (x0.size : Int) then (if 0 ≤ x7 then (if (bt x0 x7) = 44 then (sprref14_ParseDate.j4 k x0 x1 x7) else (sprref14_ParseDate.l0 k x0 x1 (wrap64 (x7 + 1)))) else (none)) else (sprref14_ParseDate.j4 k x0 x1 x7)
end
def sprref14_ParseDate.f (k : Nat) (a0 : ByteArray) (a1 : Int) : Option (Int × Int) := if (a0.size : Int) = 29 then (if 3 ≤ 5 then (if 5 ≤ (a0.size : Int) then (if (a0.extract 3 5).toList = ([44, 32] : List UInt8) then (if 7 < (a0.size : Int) then (if (bt a0 7) = 32 then (if 11 < (a0.size : Int) then (if (bt a0 11) = 32 then (if 16 < (a0.size : Int) then (if (bt a0 16) = 32 then (if 25 ≤ (a0.size : Int) then (if (a0.extract 25 a0.size).toList = ([32, 71, 77, 84] : List UInt8) then ((sprref14_days.f).bind fun t289 => (if 0 ≤ 3 then (if 3 ≤ (a0.size : Int) then ((sprref14_place.f k t289 (a0.extract 0 3)).bind fun t292 => (sprref14_ParseDate.j0 k a0 a1 (decide (t292 ≥ 0)))) else (none)) else (none))) else (sprref14_ParseDate.j0 k a0 a1 false)) else (none)) else (sprref14_ParseDate.j0 k a0 a1 false)) else (none)) else (sprref14_ParseDate.j0 k a0 a1 false)) else (none)) else (sprref14_ParseDate.j0 k a0 a1 false)) else (none)) else (sprref14_ParseDate.j0 k a0 a1 false)) else (none)) else (none)) else (sprref14_ParseDate.j0 k a0 a1 false)
theorem sprref14_ParseDate.mono_l : ∀ k, (∀ y0 y1 y2, LeO (sprref14_ParseDate.j0 k y0 y1 y2) (sprref14_ParseDate.j0 (k + 1) y0 y1 y2)) ∧ (∀ y0 y1 y2, LeO (sprref14_ParseDate.j1 k y0 y1 y2) (sprref14_ParseDate.j1 (k + 1) y0 y1 y2)) ∧ (∀ y0 y1, LeO (sprref14_ParseDate.j2 k y0 y1) (sprref14_ParseDate.j2 (k + 1) y0 y1)) ∧ (∀ y0 y1 y2, LeO (sprref14_ParseDate.j4 k y0 y1 y2) (sprref14_ParseDate.j4 (k + 1) y0 y1 y2)) ∧ (∀ y0 y1 y2 y3, LeO (sprref14_ParseDate.j5 k y0 y1 y2 y3) (sprref14_ParseDate.j5 (k + 1) y0 y1 y2 y3)) ∧ (∀ y0 y1 y2, LeO (sprref14_ParseDate.j6 k y0 y1 y2) (sprref14_ParseDate.j6 (k + 1) y0 y1 y2)) ∧ (∀ y0 y1, LeO (sprref14_ParseDate.j7 k y0 y1) (sprref14_ParseDate.j7 (k + 1) y0 y1)) ∧ (∀ y0 y1, LeO (sprref14_ParseDate.j8 k y0 y1) (sprref14_ParseDate.j8 (k + 1) y0 y1)) ∧ (∀ y0 y1 y2, LeO (sprref14_ParseDate.l0 k y0 y1 y2) (sprref14_ParseDate.l0 (k + 1) y0 y1 y2))
 | 0 => ⟨fun _ _ _ r h => by simp [sprref14_ParseDate.j0] at h, fun _ _ _ r h => by simp [sprref14_ParseDate.j1] at h, fun _ _ r h => by simp [sprref14_ParseDate.j2] at h, fun _ _ _ r h => by simp [sprref14_ParseDate.j4] at h, fun _ _ _ _ r h => by simp [sprref14_ParseDate.j5] at h, fun _ _ _ r h => by simp [sprref14_ParseDate.j6] at h, fun _ _ r h => by simp [sprref14_ParseDate.j7] at h, fun _ _ r h => by simp [sprref14_ParseDate.j8] at h, fun _ _ _ r h => by simp [sprref14_ParseDate.l0] at h⟩
 | k + 1 => by
  obtain ⟨ih0, ih1, ih2, ih3, ih4, ih5, ih6, ih7, ih8⟩ := sprref14_ParseDate.mono_l k;refine ⟨?_, ?_, ?_, ?_, ?_, ?_, ?_, ?_, ?_⟩
  ·intro y0 y1 y2
   unfold sprref14_ParseDate.j0
   repeat' first
   | (with_reducible exact ih0 _ _ _)
   | (with_reducible exact ih1 _ _ _)
   | (with_reducible exact ih2 _ _)
   | (with_reducible exact ih3 _ _ _)
   | (with_reducible exact ih4 _ _ _ _)
   | (with_reducible exact ih5 _ _ _)
   | (with_reducible exact ih6 _ _)
   | (with_reducible exact ih7 _ _)
   | (with_reducible exact ih8 _ _ _)
   | (with_reducible exact sprref14_century.mono _ _ _)
   | (with_reducible exact sprref14_digits.mono _ _ _)
   | (with_reducible exact sprref14_made.mono _ _ _ _ _)
   | (with_reducible exact sprref14_place.mono _ _ _)
   | (with_reducible exact sprref14_split.mono _ _)
   | (with_reducible exact LeO.refl _)
   | (with_reducible exact LeO.none _)
   | (with_reducible refine LeO.ite ?_ ?_)
   | (with_reducible refine LeO.bind ?_ (fun _ => ?_))
   | exact ih0 _ _ _
   | exact ih1 _ _ _
   | exact ih2 _ _
   | exact ih3 _ _ _
   | exact ih4 _ _ _ _
   | exact ih5 _ _ _
   | exact ih6 _ _
   | exact ih7 _ _
   | exact ih8 _ _ _
   | exact sprref14_century.mono _ _ _
   | exact sprref14_digits.mono _ _ _
   | exact sprref14_made.mono _ _ _ _ _
   | exact sprref14_place.mono _ _ _
   | exact sprref14_split.mono _ _
   | exact LeO.none _
   | refine LeO.ite ?_ ?_
   | refine LeO.bind ?_ (fun _ => ?_)
  ·intro y0 y1 y2
   unfold sprref14_ParseDate.j1
   repeat' first
   | (with_reducible exact ih0 _ _ _)
   | (with_reducible exact ih1 _ _ _)
   | (with_reducible exact ih2 _ _)
   | (with_reducible exact ih3 _ _ _)
   | (with_reducible exact ih4 _ _ _ _)
   | (with_reducible exact ih5 _ _ _)
   | (with_reducible exact ih6 _ _)
   | (with_reducible exact ih7 _ _)
   | (with_reducible exact ih8 _ _ _)
   | (with_reducible exact sprref14_century.mono _ _ _)
   | (with_reducible exact sprref14_digits.mono _ _ _)
   | (with_reducible exact sprref14_made.mono _ _ _ _ _)
   | (with_reducible exact sprref14_place.mono _ _ _)
   | (with_reducible exact sprref14_split.mono _ _)
   | (with_reducible exact LeO.refl _)
   | (with_reducible exact LeO.none _)
   | (with_reducible refine LeO.ite ?_ ?_)
   | (with_reducible refine LeO.bind ?_ (fun _ => ?_))
   | exact ih0 _ _ _
   | exact ih1 _ _ _
   | exact ih2 _ _
   | exact ih3 _ _ _
   | exact ih4 _ _ _ _
   | exact ih5 _ _ _
   | exact ih6 _ _
   | exact ih7 _ _
   | exact ih8 _ _ _
   | exact sprref14_century.mono _ _ _
   | exact sprref14_digits.mono _ _ _
   | exact sprref14_made.mono _ _ _ _ _
   | exact sprref14_place.mono _ _ _
   | exact sprref14_split.mono _ _
   | exact LeO.none _
   | refine LeO.ite ?_ ?_
   | refine LeO.bind ?_ (fun _ => ?_)
  ·intro y0 y1
   unfold sprref14_ParseDate.j2
   repeat' first
   | (with_reducible exact ih0 _ _ _)
   | (with_reducible exact ih1 _ _ _)
   | (with_reducible exact ih2 _ _)
   | (with_reducible exact ih3 _ _ _)
   | (with_reducible exact ih4 _ _ _ _)
   | (with_reducible exact ih5 _ _ _)
   | (with_reducible exact ih6 _ _)
   | (with_reducible exact ih7 _ _)
   | (with_reducible exact ih8 _ _ _)
   | (with_reducible exact sprref14_century.mono _ _ _)
   | (with_reducible exact sprref14_digits.mono _ _ _)
   | (with_reducible exact sprref14_made.mono _ _ _ _ _)
   | (with_reducible exact sprref14_place.mono _ _ _)
   | (with_reducible exact sprref14_split.mono _ _)
   | (with_reducible exact LeO.refl _)
   | (with_reducible exact LeO.none _)
   | (with_reducible refine LeO.ite ?_ ?_)
   | (with_reducible refine LeO.bind ?_ (fun _ => ?_))
   | exact ih0 _ _ _
   | exact ih1 _ _ _
   | exact ih2 _ _
   | exact ih3 _ _ _
   | exact ih4 _ _ _ _
   | exact ih5 _ _ _
   | exact ih6 _ _
   | exact ih7 _ _
   | exact ih8 _ _ _
   | exact sprref14_century.mono _ _ _
   | exact sprref14_digits.mono _ _ _
   | exact sprref14_made.mono _ _ _ _ _
   | exact sprref14_place.mono _ _ _
   | exact sprref14_split.mono _ _
   | exact LeO.none _
   | refine LeO.ite ?_ ?_
   | refine LeO.bind ?_ (fun _ => ?_)
  ·intro y0 y1 y2
   unfold sprref14_ParseDate.j4
   repeat' first
   | (with_reducible exact ih0 _ _ _)
   | (with_reducible exact ih1 _ _ _)
   | (with_reducible exact ih2 _ _)
   | (with_reducible exact ih3 _ _ _)
   | (with_reducible exact ih4 _ _ _ _)
   | (with_reducible exact ih5 _ _ _)
   | (with_reducible exact ih6 _ _)
   | (with_reducible exact ih7 _ _)
   | (with_reducible exact ih8 _ _ _)
   | (with_reducible exact sprref14_century.mono _ _ _)
   | (with_reducible exact sprref14_digits.mono _ _ _)
   | (with_reducible exact sprref14_made.mono _ _ _ _ _)
   | (with_reducible exact sprref14_place.mono _ _ _)
   | (with_reducible exact sprref14_split.mono _ _)
   | (with_reducible exact LeO.refl _)
   | (with_reducible exact LeO.none _)
   | (with_reducible refine LeO.ite ?_ ?_)
   | (with_reducible refine LeO.bind ?_ (fun _ => ?_))
   | exact ih0 _ _ _
   | exact ih1 _ _ _
   | exact ih2 _ _
   | exact ih3 _ _ _
   | exact ih4 _ _ _ _
   | exact ih5 _ _ _
   | exact ih6 _ _
   | exact ih7 _ _
   | exact ih8 _ _ _
   | exact sprref14_century.mono _ _ _
   | exact sprref14_digits.mono _ _ _
   | exact sprref14_made.mono _ _ _ _ _
   | exact sprref14_place.mono _ _ _
   | exact sprref14_split.mono _ _
   | exact LeO.none _
   | refine LeO.ite ?_ ?_
   | refine LeO.bind ?_ (fun _ => ?_)
  ·intro y0 y1 y2 y3
   unfold sprref14_ParseDate.j5
   repeat' first
   | (with_reducible exact ih0 _ _ _)
   | (with_reducible exact ih1 _ _ _)
   | (with_reducible exact ih2 _ _)
   | (with_reducible exact ih3 _ _ _)
   | (with_reducible exact ih4 _ _ _ _)
   | (with_reducible exact ih5 _ _ _)
   | (with_reducible exact ih6 _ _)
   | (with_reducible exact ih7 _ _)
   | (with_reducible exact ih8 _ _ _)
   | (with_reducible exact sprref14_century.mono _ _ _)
   | (with_reducible exact sprref14_digits.mono _ _ _)
   | (with_reducible exact sprref14_made.mono _ _ _ _ _)
   | (with_reducible exact sprref14_place.mono _ _ _)
   | (with_reducible exact sprref14_split.mono _ _)
   | (with_reducible exact LeO.refl _)
   | (with_reducible exact LeO.none _)
   | (with_reducible refine LeO.ite ?_ ?_)
   | (with_reducible refine LeO.bind ?_ (fun _ => ?_))
   | exact ih0 _ _ _
   | exact ih1 _ _ _
   | exact ih2 _ _
   | exact ih3 _ _ _
   | exact ih4 _ _ _ _
   | exact ih5 _ _ _
   | exact ih6 _ _
   | exact ih7 _ _
   | exact ih8 _ _ _
   | exact sprref14_century.mono _ _ _
   | exact sprref14_digits.mono _ _ _
   | exact sprref14_made.mono _ _ _ _ _
   | exact sprref14_place.mono _ _ _
   | exact sprref14_split.mono _ _
   | exact LeO.none _
   | refine LeO.ite ?_ ?_
   | refine LeO.bind ?_ (fun _ => ?_)
  ·intro y0 y1 y2
   unfold sprref14_ParseDate.j6
   repeat' first
   | (with_reducible exact ih0 _ _ _)
   | (with_reducible exact ih1 _ _ _)
   | (with_reducible exact ih2 _ _)
   | (with_reducible exact ih3 _ _ _)
   | (with_reducible exact ih4 _ _ _ _)
   | (with_reducible exact ih5 _ _ _)
   | (with_reducible exact ih6 _ _)
   | (with_reducible exact ih7 _ _)
   | (with_reducible exact ih8 _ _ _)
   | (with_reducible exact sprref14_century.mono _ _ _)
   | (with_reducible exact sprref14_digits.mono _ _ _)
   | (with_reducible exact sprref14_made.mono _ _ _ _ _)
   | (with_reducible exact sprref14_place.mono _ _ _)
   | (with_reducible exact sprref14_split.mono _ _)
   | (with_reducible exact LeO.refl _)
   | (with_reducible exact LeO.none _)
   | (with_reducible refine LeO.ite ?_ ?_)
   | (with_reducible refine LeO.bind ?_ (fun _ => ?_))
   | exact ih0 _ _ _
   | exact ih1 _ _ _
   | exact ih2 _ _
   | exact ih3 _ _ _
   | exact ih4 _ _ _ _
   | exact ih5 _ _ _
   | exact ih6 _ _
   | exact ih7 _ _
   | exact ih8 _ _ _
   | exact sprref14_century.mono _ _ _
   | exact sprref14_digits.mono _ _ _
   | exact sprref14_made.mono _ _ _ _ _
   | exact sprref14_place.mono _ _ _
   | exact sprref14_split.mono _ _
   | exact LeO.none _
   | refine LeO.ite ?_ ?_
   | refine LeO.bind ?_ (fun _ => ?_)
  ·intro y0 y1
   unfold sprref14_ParseDate.j7
   repeat' first
   | (with_reducible exact ih0 _ _ _)
   | (with_reducible exact ih1 _ _ _)
   | (with_reducible exact ih2 _ _)
   | (with_reducible exact ih3 _ _ _)
   | (with_reducible exact ih4 _ _ _ _)
   | (with_reducible exact ih5 _ _ _)
   | (with_reducible exact ih6 _ _)
   | (with_reducible exact ih7 _ _)
   | (with_reducible exact ih8 _ _ _)
   | (with_reducible exact sprref14_century.mono _ _ _)
   | (with_reducible exact sprref14_digits.mono _ _ _)
   | (with_reducible exact sprref14_made.mono _ _ _ _ _)
   | (with_reducible exact sprref14_place.mono _ _ _)
   | (with_reducible exact sprref14_split.mono _ _)
   | (with_reducible exact LeO.refl _)
   | (with_reducible exact LeO.none _)
   | (with_reducible refine LeO.ite ?_ ?_)
   | (with_reducible refine LeO.bind ?_ (fun _ => ?_))
   | exact ih0 _ _ _
   | exact ih1 _ _ _
   | exact ih2 _ _
   | exact ih3 _ _ _
   | exact ih4 _ _ _ _
   | exact ih5 _ _ _
   | exact ih6 _ _
   | exact ih7 _ _
   | exact ih8 _ _ _
   | exact sprref14_century.mono _ _ _
   | exact sprref14_digits.mono _ _ _
   | exact sprref14_made.mono _ _ _ _ _
   | exact sprref14_place.mono _ _ _
   | exact sprref14_split.mono _ _
   | exact LeO.none _
   | refine LeO.ite ?_ ?_
   | refine LeO.bind ?_ (fun _ => ?_)
  ·intro y0 y1
   unfold sprref14_ParseDate.j8
   repeat' first
   | (with_reducible exact ih0 _ _ _)
   | (with_reducible exact ih1 _ _ _)
   | (with_reducible exact ih2 _ _)
   | (with_reducible exact ih3 _ _ _)
   | (with_reducible exact ih4 _ _ _ _)
   | (with_reducible exact ih5 _ _ _)
   | (with_reducible exact ih6 _ _)
   | (with_reducible exact ih7 _ _)
   | (with_reducible exact ih8 _ _ _)
   | (with_reducible exact sprref14_century.mono _ _ _)
   | (with_reducible exact sprref14_digits.mono _ _ _)
   | (with_reducible exact sprref14_made.mono _ _ _ _ _)
   | (with_reducible exact sprref14_place.mono _ _ _)
   | (with_reducible exact sprref14_split.mono _ _)
   | (with_reducible exact LeO.refl _)
   | (with_reducible exact LeO.none _)
   | (with_reducible refine LeO.ite ?_ ?_)
   | (with_reducible refine LeO.bind ?_ (fun _ => ?_))
   | exact ih0 _ _ _
   | exact ih1 _ _ _
   | exact ih2 _ _
   | exact ih3 _ _ _
   | exact ih4 _ _ _ _
   | exact ih5 _ _ _
   | exact ih6 _ _
   | exact ih7 _ _
   | exact ih8 _ _ _
   | exact sprref14_century.mono _ _ _
   | exact sprref14_digits.mono _ _ _
   | exact sprref14_made.mono _ _ _ _ _
   | exact sprref14_place.mono _ _ _
   | exact sprref14_split.mono _ _
   | exact LeO.none _
   | refine LeO.ite ?_ ?_
   | refine LeO.bind ?_ (fun _ => ?_)
  ·intro y0 y1 y2
   unfold sprref14_ParseDate.l0
   repeat' first
   | (with_reducible exact ih0 _ _ _)
   | (with_reducible exact ih1 _ _ _)
   | (with_reducible exact ih2 _ _)
   | (with_reducible exact ih3 _ _ _)
   | (with_reducible exact ih4 _ _ _ _)
   | (with_reducible exact ih5 _ _ _)
   | (with_reducible exact ih6 _ _)
   | (with_reducible exact ih7 _ _)
   | (with_reducible exact ih8 _ _ _)
   | (with_reducible exact sprref14_century.mono _ _ _)
   | (with_reducible exact sprref14_digits.mono _ _ _)
   | (with_reducible exact sprref14_made.mono _ _ _ _ _)
   | (with_reducible exact sprref14_place.mono _ _ _)
   | (with_reducible exact sprref14_split.mono _ _)
   | (with_reducible exact LeO.refl _)
   | (with_reducible exact LeO.none _)
   | (with_reducible refine LeO.ite ?_ ?_)
   | (with_reducible refine LeO.bind ?_ (fun _ => ?_))
   | exact ih0 _ _ _
   | exact ih1 _ _ _
   | exact ih2 _ _
   | exact ih3 _ _ _
   | exact ih4 _ _ _ _
   | exact ih5 _ _ _
   | exact ih6 _ _
   | exact ih7 _ _
   | exact ih8 _ _ _
   | exact sprref14_century.mono _ _ _
   | exact sprref14_digits.mono _ _ _
   | exact sprref14_made.mono _ _ _ _ _
   | exact sprref14_place.mono _ _ _
   | exact sprref14_split.mono _ _
   | exact LeO.none _
   | refine LeO.ite ?_ ?_
   | refine LeO.bind ?_ (fun _ => ?_)
theorem sprref14_ParseDate.mono : ∀ a0 a1 k, LeO (sprref14_ParseDate.f k a0 a1) (sprref14_ParseDate.f (k + 1) a0 a1) := by
 intro a0 a1 k;obtain ⟨ih0, ih1, ih2, ih3, ih4, ih5, ih6, ih7, ih8⟩ := sprref14_ParseDate.mono_l k
 unfold sprref14_ParseDate.f
 repeat' first
   | (with_reducible exact ih0 _ _ _)
   | (with_reducible exact ih1 _ _ _)
   | (with_reducible exact ih2 _ _)
   | (with_reducible exact ih3 _ _ _)
   | (with_reducible exact ih4 _ _ _ _)
   | (with_reducible exact ih5 _ _ _)
   | (with_reducible exact ih6 _ _)
   | (with_reducible exact ih7 _ _)
   | (with_reducible exact ih8 _ _ _)
   | (with_reducible exact sprref14_century.mono _ _ _)
   | (with_reducible exact sprref14_digits.mono _ _ _)
   | (with_reducible exact sprref14_made.mono _ _ _ _ _)
   | (with_reducible exact sprref14_place.mono _ _ _)
   | (with_reducible exact sprref14_split.mono _ _)
   | (with_reducible exact LeO.refl _)
   | (with_reducible exact LeO.none _)
   | (with_reducible refine LeO.ite ?_ ?_)
   | (with_reducible refine LeO.bind ?_ (fun _ => ?_))
   | exact ih0 _ _ _
   | exact ih1 _ _ _
   | exact ih2 _ _
   | exact ih3 _ _ _
   | exact ih4 _ _ _ _
   | exact ih5 _ _ _
   | exact ih6 _ _
   | exact ih7 _ _
   | exact ih8 _ _ _
   | exact sprref14_century.mono _ _ _
   | exact sprref14_digits.mono _ _ _
   | exact sprref14_made.mono _ _ _ _ _
   | exact sprref14_place.mono _ _ _
   | exact sprref14_split.mono _ _
   | exact LeO.none _
   | refine LeO.ite ?_ ?_
   | refine LeO.bind ?_ (fun _ => ?_)
def sprref14_ParseDate.T1 : Bool × List (List Nat × List Nat) := (true, [([], []), ([0], [0]), ([1], [1]), ([2], [2]), ([3], [3]), ([4, 3], [3, 4]), ([5, 3], [3, 5]), ([3, 6], [3, 6]), ([7, 3], [7]), ([8], [8]), ([9, 8], [8, 9]), ([10, 8], [8, 10]), ([8, 11], [8, 11]), ([12, 8], [12]), ([13], [13]), ([14, 13], [13, 14]), ([15, 13], [13, 15]), ([13, 16], [13, 16]), ([17, 13], [17]), ([18], [18]), ([19, 18], [18, 19]), ([20, 18], [18, 20]), ([18, 21], [18, 21]), ([22, 18], [22]), ([23], [23]), ([24, 23], [23, 24]), ([25, 23], [23, 25]), ([23, 26], [23, 26]), ([27, 23], [27]), ([28, 28], [28]), ([28], [28]), ([30, 28], [28, 30]), ([29, 31, 29, 28], [28, 29, 31]), ([32, 28], [28, 32]), ([28, 33], [28, 33])])
def sprref14_ParseDate.B1 : List Nat := [0, 1, 3, 7, 15, 31, 63, 127, 255, 511, 1023, 2047, 4095, 8191, 16383, 32767, 65535, 131071, 262143, 524287, 1048575, 2097151, 4194303, 8388607, 16777215, 33554431, 67108863, 134217727, 268435455, 536870911, 536870911, 1610612735, 4294967295, 8589934591, 17179869183]
theorem sprref14_ParseDate.tab1 : rtab .any (opsOf Tryd.f11 1) = sprref14_ParseDate.T1 := by kernel_rfl
theorem sprref14_ParseDate.bits1 : waitsOk sprref14_ParseDate.T1.2 sprref14_ParseDate.B1 = true := by kernel_rfl
def sprref14_ParseDate.T2 : Bool × List (List Nat × List Nat) := (true, [([], []), ([0], [0]), ([1], [1]), ([2], []), ([], []), ([4], [4]), ([3, 5, 3], [3, 5]), ([], []), ([7], [7]), ([8, 6], [8]), ([], []), ([10], [10]), ([2, 6, 9, 11, 9], [2, 6, 9, 11]), ([12], [12]), ([12], [12]), ([13, 12, 0, 1, 2, 3, 4, 5, 6, 7, 8, 9, 10, 11, 12, 13, 14], [13]), ([14, 15, 0, 1, 2, 3, 4, 5, 6, 7, 8, 9, 10, 11, 12, 13, 14, 15], [14])])
def sprref14_ParseDate.B2 : List Nat := [0, 1, 3, 7, 0, 16, 63, 0, 128, 511, 0, 1024, 4095, 8191, 8191, 32767, 65535]
theorem sprref14_ParseDate.tab2 : rtab .any (opsOf Tryd.f11 2) = sprref14_ParseDate.T2 := by kernel_rfl
theorem sprref14_ParseDate.bits2 : waitsOk sprref14_ParseDate.T2.2 sprref14_ParseDate.B2 = true := by kernel_rfl
def sprref14_ParseDate.T3 : Bool × List (List Nat × List Nat) := (true, [([], []), ([0], [0]), ([1], [1]), ([2], [2]), ([3], [3]), ([4, 3], [3, 4]), ([5, 3], [3, 5]), ([3, 6], [3, 6]), ([7, 3], [7]), ([8], [8]), ([9, 8], [8, 9]), ([10, 8], [8, 10]), ([8, 11], [8, 11]), ([12, 8], [12]), ([13], [13]), ([14, 13], [13, 14]), ([15, 13], [13, 15]), ([13, 16], [13, 16]), ([17, 13], [17]), ([18], [18]), ([19, 18], [18, 19]), ([20, 18], [18, 20]), ([18, 21], [18, 21]), ([22, 18], [22]), ([23, 23], [23]), ([23], [23]), ([25, 23], [23, 25]), ([24, 26, 24, 23], [23, 24, 26]), ([27, 23], [23, 27]), ([23, 28], [23, 28])])
def sprref14_ParseDate.B3 : List Nat := [0, 1, 3, 7, 15, 31, 63, 127, 255, 511, 1023, 2047, 4095, 8191, 16383, 32767, 65535, 131071, 262143, 524287, 1048575, 2097151, 4194303, 8388607, 16777215, 16777215, 50331647, 134217727, 268435455, 536870911]
theorem sprref14_ParseDate.tab3 : rtab .any (opsOf Tryd.f11 3) = sprref14_ParseDate.T3 := by kernel_rfl
theorem sprref14_ParseDate.bits3 : waitsOk sprref14_ParseDate.T3.2 sprref14_ParseDate.B3 = true := by kernel_rfl
def sprref14_ParseDate.T7 : Bool × List (List Nat × List Nat) := (true, [([], []), ([0], [0]), ([1], [1]), ([2], []), ([], []), ([4], [4]), ([3, 5, 3], [3, 5]), ([], []), ([], []), ([8], [8]), ([2, 6, 7, 9, 6], [2, 6, 7, 9]), ([10], [10]), ([10], [10]), ([11, 10, 0, 1, 2, 3, 4, 5, 6, 7, 8, 9, 10, 11, 12], [11]), ([12, 13, 0, 1, 2, 3, 4, 5, 6, 7, 8, 9, 10, 11, 12, 13], [12])])
def sprref14_ParseDate.B7 : List Nat := [0, 1, 3, 7, 0, 16, 63, 0, 0, 256, 1023, 2047, 2047, 8191, 16383]
theorem sprref14_ParseDate.tab7 : rtab .any (opsOf Tryd.f11 7) = sprref14_ParseDate.T7 := by kernel_rfl
theorem sprref14_ParseDate.bits7 : waitsOk sprref14_ParseDate.T7.2 sprref14_ParseDate.B7 = true := by kernel_rfl
def sprref14_ParseDate.T11 : Bool × List (List Nat × List Nat) := (true, [([], []), ([], []), ([1], [1]), ([0, 2], [0, 2]), ([3], [3]), ([4, 4], [4]), ([4], [4]), ([4], [4]), ([6, 7, 4], [4, 6, 7]), ([5, 8, 5, 4], [4, 5, 8]), ([9, 4], [4, 9]), ([4, 10], [4, 10])])
def sprref14_ParseDate.B11 : List Nat := [0, 0, 2, 7, 15, 31, 31, 31, 223, 511, 1023, 2047]
theorem sprref14_ParseDate.tab11 : rtab .any (opsOf Tryd.f11 11) = sprref14_ParseDate.T11 := by kernel_rfl
theorem sprref14_ParseDate.bits11 : waitsOk sprref14_ParseDate.T11.2 sprref14_ParseDate.B11 = true := by kernel_rfl
def sprref14_ParseDate.T20 : Bool × List (List Nat × List Nat) := (true, [([], []), ([], []), ([], []), ([2], [2]), ([1, 3, 1], [1, 3]), ([], []), ([5], [5]), ([6, 4], [6]), ([], []), ([8], [8]), ([0, 4, 7, 9, 7], [0, 4, 7, 9]), ([10], [10]), ([10], [10]), ([11, 10, 0, 1, 2, 3, 4, 5, 6, 7, 8, 9, 10, 11, 12], [11]), ([12, 13, 0, 1, 2, 3, 4, 5, 6, 7, 8, 9, 10, 11, 12, 13], [12])])
def sprref14_ParseDate.B20 : List Nat := [0, 0, 0, 4, 14, 0, 32, 126, 0, 256, 1023, 2047, 2047, 8191, 16383]
theorem sprref14_ParseDate.tab20 : rtab .any (opsOf Tryd.f11 20) = sprref14_ParseDate.T20 := by kernel_rfl
theorem sprref14_ParseDate.bits20 : waitsOk sprref14_ParseDate.T20.2 sprref14_ParseDate.B20 = true := by kernel_rfl
end Go.Proofs.YtnkmhgfhdgledaaDoor.Q
