-- Written by a program of this session's (wip/xprint.py), out of the seat's translation.
import Derived.Test.YtnkmhgfhdgledaaDoorR0
import Derived.Test.YtnkmhgfhdgledaaDoorR6
import Derived.Test.YtnkmhgfhdgledaaDoorR7
namespace Go.Proofs.YtnkmhgfhdgledaaDoor.R
open Go.RowKit Go.Proofs.YtnkmhgfhdgledaaDoorW.PrintWords Go.Proofs.YtnkmhgfhdgledaaDoorW.PrintLast Go.Proofs.YtnkmhgfhdgledaaDoorW.PrintMore
attribute [local go_sem] max2_int min2_int max_two min_two max_three min_three max_four min_four   -- for this text's walks alone
set_option linter.unusedVariables false
set_option linter.unusedSimpArgs false

/-! ### sprlaw15_DateForms: function 6 -/
mutual
def sprlaw15_DateForms.j0 : Nat → Int → ByteArray → Bool → Option (Bool)
  | 0, _, _, _ => none
  | k + 1, x0, x3, x34 => if x34 = true then ((sprlaw15_first.f k).bind fun t342 => (some t342)) else (sprlaw15_DateForms.l0 k x0 x3 (([(⟨#[83, 117, 110, 100, 97, 121]⟩ : ByteArray), (⟨#[77, 111, 110, 100, 97, 121]⟩ : ByteArray), (⟨#[84, 117, 101, 115, 100, 97, 121]⟩ : ByteArray), (⟨#[87, 101, 100, 110, 101, 115, 100, 97, 121]⟩ : ByteArray), (⟨#[84, 104, 117, 114, 115, 100, 97, 121]⟩ : ByteArray), (⟨#[70, 114, 105, 100, 97, 121]⟩ : ByteArray), (⟨#[83, 97, 116, 117, 114, 100, 97, 121]⟩ : ByteArray)] : List ByteArray)) (⟨#[]⟩ : ByteArray) 0)
def sprlaw15_DateForms.l0 : Nat → Int → ByteArray → List ByteArray → ByteArray → Int → Option (Bool)
  | 0, _, _, _, _, _ => none
  | k + 1, x0, x3, x5, x6, x7 => if x7 < (x5.length : Int) then (if 0 ≤ x7 then (if 0 ≤ 3 then (if 3 ≤ ((rdOf ByteArray.empty x5 x7).size : Int) then (if 3 ≤ (x3.size : Int) then (if ((rdOf ByteArray.empty x5 x7).extract 0 3).toList = (x3.extract 0 3).toList then (sprlaw15_DateForms.l0 k x0 x3 x5 (rdOf ByteArray.empty x5 x7) (wrap64 (x7 + 1))) else (sprlaw15_DateForms.l0 k x0 x3 x5 x6 (wrap64 (x7 + 1)))) else (none)) else (none)) else (none)) else (none)) else (if 5 ≤ 7 then (if 7 ≤ (x3.size : Int) then (if 0 < ((x3.extract 5 7).size : Int) then (if (bt (x3.extract 5 7) 0) = 48 then (if 1 ≤ ((x3.extract 5 7).size : Int) then (if 1 + ((x3.extract 5 7).extract 1 (x3.extract 5 7).size).size ≤ 9223372036854775807 then (if x6.size + 2 ≤ 9223372036854775807 then (if (x6 ++ (⟨#[44, 32]⟩ : ByteArray)).size + (x3.extract 5 7).size ≤ 9223372036854775807 then (if ((x6 ++ (⟨#[44, 32]⟩ : ByteArray)) ++ (x3.extract 5 7)).size + 1 ≤ 9223372036854775807 then (if 8 ≤ 11 then (if 11 ≤ (x3.size : Int) then (if (((x6 ++ (⟨#[44, 32]⟩ : ByteArray)) ++ (x3.extract 5 7)) ++ (⟨#[45]⟩ : ByteArray)).size + (x3.extract 8 11).size ≤ 9223372036854775807 then (if ((((x6 ++ (⟨#[44, 32]⟩ : ByteArray)) ++ (x3.extract 5 7)) ++ (⟨#[45]⟩ : ByteArray)) ++ (x3.extract 8 11)).size + 1 ≤ 9223372036854775807 then (if 14 ≤ 16 then (if 16 ≤ (x3.size : Int) then (if (((((x6 ++ (⟨#[44, 32]⟩ : ByteArray)) ++ (x3.extract 5 7)) ++ (⟨#[45]⟩ : ByteArray)) ++ (x3.extract 8 11)) ++ (⟨#[45]⟩ : ByteArray)).size + (x3.extract 14 16).size ≤ 9223372036854775807 then (if ((((((x6 ++ (⟨#[44, 32]⟩ : ByteArray)) ++ (x3.extract 5 7)) ++ (⟨#[45]⟩ : ByteArray)) ++ (x3.extract 8 11)) ++ (⟨#[45]⟩ : ByteArray)) ++ (x3.extract 14 16)).size + 1 ≤ 9223372036854775807 then (if 17 ≤ 25 then (if 25 ≤ (x3.size : Int) then (if (((((((x6 ++ (⟨#[44, 32]⟩ : ByteArray)) ++ (x3.extract 5 7)) ++ (⟨#[45]⟩ : ByteArray)) ++ (x3.extract 8 11)) ++ (⟨#[45]⟩ : ByteArray)) ++ (x3.extract 14 16)) ++ (⟨#[32]⟩ : ByteArray)).size + (x3.extract 17 25).size ≤ 9223372036854775807 then (if ((((((((x6 ++ (⟨#[44, 32]⟩ : ByteArray)) ++ (x3.extract 5 7)) ++ (⟨#[45]⟩ : ByteArray)) ++ (x3.extract 8 11)) ++ (⟨#[45]⟩ : ByteArray)) ++ (x3.extract 14 16)) ++ (⟨#[32]⟩ : ByteArray)) ++ (x3.extract 17 25)).size + 4 ≤ 9223372036854775807 then ((date_Parse.f k (((((((((x6 ++ (⟨#[44, 32]⟩ : ByteArray)) ++ (x3.extract 5 7)) ++ (⟨#[45]⟩ : ByteArray)) ++ (x3.extract 8 11)) ++ (⟨#[45]⟩ : ByteArray)) ++ (x3.extract 14 16)) ++ (⟨#[32]⟩ : ByteArray)) ++ (x3.extract 17 25)) ++ (⟨#[32, 71, 77, 84]⟩ : ByteArray)) x0).bind fun bt348 => (if 0 ≤ 3 then (if 3 ≤ (x3.size : Int) then (if (x3.extract 0 3).size + 1 ≤ 9223372036854775807 then (if ((x3.extract 0 3) ++ (⟨#[32]⟩ : ByteArray)).size + (x3.extract 8 11).size ≤ 9223372036854775807 then (if (((x3.extract 0 3) ++ (⟨#[32]⟩ : ByteArray)) ++ (x3.extract 8 11)).size + 1 ≤ 9223372036854775807 then (if ((((x3.extract 0 3) ++ (⟨#[32]⟩ : ByteArray)) ++ (x3.extract 8 11)) ++ (⟨#[32]⟩ : ByteArray)).size + ((⟨#[32]⟩ : ByteArray) ++ ((x3.extract 5 7).extract 1 (x3.extract 5 7).size)).size ≤ 9223372036854775807 then (if (((((x3.extract 0 3) ++ (⟨#[32]⟩ : ByteArray)) ++ (x3.extract 8 11)) ++ (⟨#[32]⟩ : ByteArray)) ++ ((⟨#[32]⟩ : ByteArray) ++ ((x3.extract 5 7).extract 1 (x3.extract 5 7).size))).size + 1 ≤ 9223372036854775807 then (if ((((((x3.extract 0 3) ++ (⟨#[32]⟩ : ByteArray)) ++ (x3.extract 8 11)) ++ (⟨#[32]⟩ : ByteArray)) ++ ((⟨#[32]⟩ : ByteArray) ++ ((x3.extract 5 7).extract 1 (x3.extract 5 7).size))) ++ (⟨#[32]⟩ : ByteArray)).size + (x3.extract 17 25).size ≤ 9223372036854775807 then (if (((((((x3.extract 0 3) ++ (⟨#[32]⟩ : ByteArray)) ++ (x3.extract 8 11)) ++ (⟨#[32]⟩ : ByteArray)) ++ ((⟨#[32]⟩ : ByteArray) ++ ((x3.extract 5 7).extract 1 (x3.extract 5 7).size))) ++ (⟨#[32]⟩ : ByteArray)) ++ (x3.extract 17 25)).size + 1 ≤ 9223372036854775807 then (if 12 ≤ 16 then (if ((((((((x3.extract 0 3) ++ (⟨#[32]⟩ : ByteArray)) ++ (x3.extract 8 11)) ++ (⟨#[32]⟩ : ByteArray)) ++ ((⟨#[32]⟩ : ByteArray) ++ ((x3.extract 5 7).extract 1 (x3.extract 5 7).size))) ++ (⟨#[32]⟩ : ByteArray)) ++ (x3.extract 17 25)) ++ (⟨#[32]⟩ : ByteArray)).size + (x3.extract 12 16).size ≤ 9223372036854775807 then ((date_Parse.f k (((((((((x3.extract 0 3) ++ (⟨#[32]⟩ : ByteArray)) ++ (x3.extract 8 11)) ++ (⟨#[32]⟩ : ByteArray)) ++ ((⟨#[32]⟩ : ByteArray) ++ ((x3.extract 5 7).extract 1 (x3.extract 5 7).size))) ++ (⟨#[32]⟩ : ByteArray)) ++ (x3.extract 17 25)) ++ (⟨#[32]⟩ : ByteArray)) ++ (x3.extract 12 16)) x0).bind fun bt350 => ((sprlaw15_first.f k).bind fun t352 => (if t352 = true then (if x6.toList = ([] : List UInt8) then (some false) else (if bt348.2 = 0 then (if bt350.2 = 0 then (if bt348.1 = x0 then (some (bt350.1 == x0)) else (some false)) else (some false)) else (some false))) else (some false)))) else (none)) else (none)) else (none)) else (none)) else (none)) else (none)) else (none)) else (none)) else (none)) else (none)) else (none))) else (none)) else (none)) else (none)) else (none)) else (none)) else (none)) else (none)) else (none)) else (none)) else (none)) else (none)) else (none)) else (none)) else (none)) else (none)) else (none)) else (none)) else (if x6.size + 2 ≤ 9223372036854775807 then (if (x6 ++ (⟨#[44, 32]⟩ : ByteArray)).size + (x3.extract 5 7).size ≤ 9223372036854775807 then (if ((x6 ++ (⟨#[44, 32]⟩ : ByteArray)) ++ (x3.extract 5 7)).size + 1 ≤ 9223372036854775807 then (if 8 ≤ 11 then (if 11 ≤ (x3.size : Int) then (if (((x6 ++ (⟨#[44, 32]⟩ : ByteArray)) ++ (x3.extract 5 7)) ++ (⟨#[45]⟩ : ByteArray)).size + (x3.extract 8 11).size ≤ 9223372036854775807 then (if ((((x6 ++ (⟨#[44, 32]⟩ : ByteArray)) ++ (x3.extract 5 7)) ++ (⟨#[45]⟩ : ByteArray)) ++ (x3.extract 8 11)).size + 1 ≤ 9223372036854775807 then (if 14 ≤ 16 then (if 16 ≤ (x3.size : Int) then (if (((((x6 ++ (⟨#[44, 32]⟩ : ByteArray)) ++ (x3.extract 5 7)) ++ (⟨#[45]⟩ : ByteArray)) ++ (x3.extract 8 11)) ++ (⟨#[45]⟩ : ByteArray)).size + (x3.extract 14 16).size ≤ 9223372036854775807 then (if ((((((x6 ++ (⟨#[44, 32]⟩ : ByteArray)) ++ (x3.extract 5 7)) ++ (⟨#[45]⟩ : ByteArray)) ++ (x3.extract 8 11)) ++ (⟨#[45]⟩ : ByteArray)) ++ (x3.extract 14 16)).size + 1 ≤ 9223372036854775807 then (if 17 ≤ 25 then (if 25 ≤ (x3.size : Int) then (if (((((((x6 ++ (⟨#[44, 32]⟩ : ByteArray)) ++ (x3.extract 5 7)) ++ (⟨#[45]⟩ : ByteArray)) ++ (x3.extract 8 11)) ++ (⟨#[45]⟩ : ByteArray)) ++ (x3.extract 14 16)) ++ (⟨#[32]⟩ : ByteArray)).size + (x3.extract 17 25).size ≤ 9223372036854775807 then (if ((((((((x6 ++ (⟨#[44, 32]⟩ : ByteArray)) ++ (x3.extract 5 7)) ++ (⟨#[45]⟩ : ByteArray)) ++ (x3.extract 8 11)) ++ (⟨#[45]⟩ : ByteArray)) ++ (x3.extract 14 16)) ++ (⟨#[32]⟩ : ByteArray)) ++ (x3.extract 17 25)).size + 4 ≤ 9223372036854775807 then ((date_Parse.f k (((((((((x6 ++ (⟨#[44, 32]⟩ : ByteArray)) ++ (x3.extract 5 7)) ++ (⟨#[45]⟩ : ByteArray)) ++ (x3.extract 8 11)) ++ (⟨#[45]⟩ : ByteArray)) ++ (x3.extract 14 16)) ++ (⟨#[32]⟩ : ByteArray)) ++ (x3.extract 17 25)) ++ (⟨#[32, 71, 77, 84]⟩ : ByteArray)) x0).bind fun bt353 => (if 0 ≤ 3 then (if 3 ≤ (x3.size : Int) then (if (x3.extract 0 3).size + 1 ≤ 9223372036854775807 then (if ((x3.extract 0 3) ++ (⟨#[32]⟩ : ByteArray)).size + (x3.extract 8 11).size ≤ 9223372036854775807 then (if (((x3.extract 0 3) ++ (⟨#[32]⟩ : ByteArray)) ++ (x3.extract 8 11)).size + 1 ≤ 9223372036854775807 then (if ((((x3.extract 0 3) ++ (⟨#[32]⟩ : ByteArray)) ++ (x3.extract 8 11)) ++ (⟨#[32]⟩ : ByteArray)).size + (x3.extract 5 7).size ≤ 9223372036854775807 then (if (((((x3.extract 0 3) ++ (⟨#[32]⟩ : ByteArray)) ++ (x3.extract 8 11)) ++ (⟨#[32]⟩ : ByteArray)) ++ (x3.extract 5 7)).size + 1 ≤ 9223372036854775807 then (if ((((((x3.extract 0 3) ++ (⟨#[32]⟩ : ByteArray)) ++ (x3.extract 8 11)) ++ (⟨#[32]⟩ : ByteArray)) ++ (x3.extract 5 7)) ++ (⟨#[32]⟩ : ByteArray)).size + (x3.extract 17 25).size ≤ 9223372036854775807 then (if (((((((x3.extract 0 3) ++ (⟨#[32]⟩ : ByteArray)) ++ (x3.extract 8 11)) ++ (⟨#[32]⟩ : ByteArray)) ++ (x3.extract 5 7)) ++ (⟨#[32]⟩ : ByteArray)) ++ (x3.extract 17 25)).size + 1 ≤ 9223372036854775807 then (if 12 ≤ 16 then (if ((((((((x3.extract 0 3) ++ (⟨#[32]⟩ : ByteArray)) ++ (x3.extract 8 11)) ++ (⟨#[32]⟩ : ByteArray)) ++ (x3.extract 5 7)) ++ (⟨#[32]⟩ : ByteArray)) ++ (x3.extract 17 25)) ++ (⟨#[32]⟩ : ByteArray)).size + (x3.extract 12 16).size ≤ 9223372036854775807 then ((date_Parse.f k (((((((((x3.extract 0 3) ++ (⟨#[32]⟩ : ByteArray)) ++ (x3.extract 8 11)) ++ (⟨#[32]⟩ : ByteArray)) ++ (x3.extract 5 7)) ++ (⟨#[32]⟩ : ByteArray)) ++ (x3.extract 17 25)) ++ (⟨#[32]⟩ : ByteArray)) ++ (x3.extract 12 16)) x0).bind fun bt355 => ((sprlaw15_first.f k).bind fun t357 => (if t357 = true then (if x6.toList = ([] : List UInt8) then (some false) else (if bt353.2 = 0 then (if bt355.2 = 0 then (if bt353.1 = x0 then (some (bt355.1 == x0)) else (some false)) else (some false)) else (some false))) else (some false)))) else (none)) else (none)) else (none)) else (none)) else (none)) else (none)) else (none)) else (none)) else (none)) else (none)) else (none))) else (none)) else (none)) else (none)) else (none)) else (none)) else (none)) else (none)) else (none)) else (none)) else (none)) else (none)) else (none)) else (none)) else (none)) else (none))) else (none)) else (none)) else (none))
end
def sprlaw15_DateForms.f (k : Nat) (a0 : Int) : Option (Bool) := (sprlaw15_first.f k).bind fun t339 => (if t339 = true then ((date_Print.f k a0).bind fun bt340 => (if bt340.2 = 0 then (if (bt340.1.size : Int) = 29 then (if a0 < 0 then (sprlaw15_DateForms.j0 k a0 bt340.1 true) else (sprlaw15_DateForms.j0 k a0 bt340.1 (decide (a0 > 250000000000)))) else (sprlaw15_DateForms.j0 k a0 bt340.1 true)) else (sprlaw15_DateForms.j0 k a0 bt340.1 true))) else (some false))
theorem sprlaw15_DateForms.mono_l : ∀ k, (∀ y0 y1 y2, LeO (sprlaw15_DateForms.j0 k y0 y1 y2) (sprlaw15_DateForms.j0 (k + 1) y0 y1 y2)) ∧ (∀ y0 y1 y2 y3 y4, LeO (sprlaw15_DateForms.l0 k y0 y1 y2 y3 y4) (sprlaw15_DateForms.l0 (k + 1) y0 y1 y2 y3 y4))
  | 0 => ⟨fun _ _ _ r h => by simp [sprlaw15_DateForms.j0] at h, fun _ _ _ _ _ r h => by simp [sprlaw15_DateForms.l0] at h⟩
  | k + 1 => by
    obtain ⟨ih0, ih1⟩ := sprlaw15_DateForms.mono_l k
    refine ⟨?_, ?_⟩
    · intro y0 y1 y2
      unfold sprlaw15_DateForms.j0
      repeat' first
      | (with_reducible exact ih0 _ _ _)
      | (with_reducible exact ih1 _ _ _ _ _)
      | (with_reducible exact date_Parse.mono _ _ _)
      | (with_reducible exact date_Print.mono _ _)
      | (with_reducible exact sprlaw15_first.mono _)
      | (with_reducible exact LeO.refl _)
      | (with_reducible exact LeO.none _)
      | (with_reducible refine LeO.ite ?_ ?_)
      | (with_reducible refine LeO.bind ?_ (fun _ => ?_))
      | exact ih0 _ _ _
      | exact ih1 _ _ _ _ _
      | exact date_Parse.mono _ _ _
      | exact date_Print.mono _ _
      | exact sprlaw15_first.mono _
      | exact LeO.none _
      | refine LeO.ite ?_ ?_
      | refine LeO.bind ?_ (fun _ => ?_)
    · intro y0 y1 y2 y3 y4
      unfold sprlaw15_DateForms.l0
      repeat' first
      | (with_reducible exact ih0 _ _ _)
      | (with_reducible exact ih1 _ _ _ _ _)
      | (with_reducible exact date_Parse.mono _ _ _)
      | (with_reducible exact date_Print.mono _ _)
      | (with_reducible exact sprlaw15_first.mono _)
      | (with_reducible exact LeO.refl _)
      | (with_reducible exact LeO.none _)
      | (with_reducible refine LeO.ite ?_ ?_)
      | (with_reducible refine LeO.bind ?_ (fun _ => ?_))
      | exact ih0 _ _ _
      | exact ih1 _ _ _ _ _
      | exact date_Parse.mono _ _ _
      | exact date_Print.mono _ _
      | exact sprlaw15_first.mono _
      | exact LeO.none _
      | refine LeO.ite ?_ ?_
      | refine LeO.bind ?_ (fun _ => ?_)
theorem sprlaw15_DateForms.mono : ∀ a0 k, LeO (sprlaw15_DateForms.f k a0) (sprlaw15_DateForms.f (k + 1) a0) := by
  intro a0 k
  obtain ⟨ih0, ih1⟩ := sprlaw15_DateForms.mono_l k
  unfold sprlaw15_DateForms.f
  repeat' first
      | (with_reducible exact ih0 _ _ _)
      | (with_reducible exact ih1 _ _ _ _ _)
      | (with_reducible exact date_Parse.mono _ _ _)
      | (with_reducible exact date_Print.mono _ _)
      | (with_reducible exact sprlaw15_first.mono _)
      | (with_reducible exact LeO.refl _)
      | (with_reducible exact LeO.none _)
      | (with_reducible refine LeO.ite ?_ ?_)
      | (with_reducible refine LeO.bind ?_ (fun _ => ?_))
      | exact ih0 _ _ _
      | exact ih1 _ _ _ _ _
      | exact date_Parse.mono _ _ _
      | exact date_Print.mono _ _
      | exact sprlaw15_first.mono _
      | exact LeO.none _
      | refine LeO.ite ?_ ?_
      | refine LeO.bind ?_ (fun _ => ?_)
def sprlaw15_DateForms.T11 : Bool × List (List Nat × List Nat) := (true, [([], []), ([], []), ([0, 1], [0, 1]), ([2], [2]), ([3], [3]), ([], []), ([5], [5]), ([4, 6], [4, 6])])
def sprlaw15_DateForms.B11 : List Nat := [0, 0, 3, 7, 15, 0, 32, 127]
theorem sprlaw15_DateForms.tab11 : rtab .any (opsOf Tryd.f6 11) = sprlaw15_DateForms.T11 := by kernel_rfl
theorem sprlaw15_DateForms.bits11 : waitsOk sprlaw15_DateForms.T11.2 sprlaw15_DateForms.B11 = true := by kernel_rfl
def sprlaw15_DateForms.T16 : Bool × List (List Nat × List Nat) := (true, [([], []), ([0], [0]), ([], []), ([2], [2]), ([1, 3], [1, 3]), ([4], [4]), ([], []), ([6], [6]), ([5, 7], [5, 7]), ([8], [8]), ([], []), ([10], [10]), ([9, 11], [9, 11]), ([12], [12]), ([], []), ([14], [14]), ([13, 15], [13, 15]), ([16], [16]), ([], []), ([17, 18], [17, 18]), ([19], [19]), ([20], [20]), ([20], [20]), ([21, 19, 0, 1, 2, 3, 4, 5, 6, 7, 8, 9, 10, 11, 12, 13, 14, 15, 16, 17, 18, 19, 20, 21], [21]), ([22, 23, 0, 1, 2, 3, 4, 5, 6, 7, 8, 9, 10, 11, 12, 13, 14, 15, 16, 17, 18, 19, 20, 21, 22, 23], [22])])
def sprlaw15_DateForms.B16 : List Nat := [0, 1, 0, 4, 15, 31, 0, 64, 255, 511, 0, 1024, 4095, 8191, 0, 16384, 65535, 131071, 0, 524287, 1048575, 2097151, 2097151, 4194303, 16777215]
theorem sprlaw15_DateForms.tab16 : rtab .any (opsOf Tryd.f6 16) = sprlaw15_DateForms.T16 := by kernel_rfl
theorem sprlaw15_DateForms.bits16 : waitsOk sprlaw15_DateForms.T16.2 sprlaw15_DateForms.B16 = true := by kernel_rfl
def sprlaw15_DateForms.T17 : Bool × List (List Nat × List Nat) := (true, [([], []), ([0], [0]), ([1], [1]), ([], []), ([3], [3]), ([2, 4], [2, 4]), ([5], [5]), ([], []), ([6, 7], [6, 7]), ([8], [8]), ([], []), ([10], [10]), ([9, 11], [9, 11]), ([12], [12]), ([], []), ([14], [14]), ([13, 15], [13, 15]), ([], []), ([16, 17], [16, 17]), ([18], [18]), ([19], [19]), ([19], [19]), ([20, 18, 0, 1, 2, 3, 4, 5, 6, 7, 8, 9, 10, 11, 12, 13, 14, 15, 16, 17, 18, 19, 20], [20]), ([21, 22, 0, 1, 2, 3, 4, 5, 6, 7, 8, 9, 10, 11, 12, 13, 14, 15, 16, 17, 18, 19, 20, 21, 22], [21])])
def sprlaw15_DateForms.B17 : List Nat := [0, 1, 3, 0, 8, 31, 63, 0, 255, 511, 0, 1024, 4095, 8191, 0, 16384, 65535, 0, 262143, 524287, 1048575, 1048575, 2097151, 8388607]
theorem sprlaw15_DateForms.tab17 : rtab .any (opsOf Tryd.f6 17) = sprlaw15_DateForms.T17 := by kernel_rfl
theorem sprlaw15_DateForms.bits17 : waitsOk sprlaw15_DateForms.T17.2 sprlaw15_DateForms.B17 = true := by kernel_rfl
set_option maxHeartbeats 20000000 in
set_option maxRecDepth 100000 in
theorem sprlaw15_DateForms.calls (k : Nat) (a0 : Int) (r : Bool) (w : World) (h : sprlaw15_DateForms.f k a0 = some r) (hT : Aside0 (r = true)) (hT0 : Lib.TabIs Tryd.prog w "internal/strconv.uint64pow10" .u64 Lib.pow10Tab) :
    Calls Tryd.prog 6 #[.int .i64 a0] w fun e w' => e = .returned (.bool r) ∧ Below w.heap.size w w' := by
  have HT0 := Aside0.mk hT0
  clear hT0
  have HB := Aside0.mk (Below.refl w.heap.size w)
  have H : ((sprlaw15_first.f k).bind fun t339 => (if t339 = true then ((date_Print.f k a0).bind fun bt340 => (if bt340.2 = 0 then (if (bt340.1.size : Int) = 29 then (if a0 < 0 then (sprlaw15_DateForms.j0 k a0 bt340.1 true) else (sprlaw15_DateForms.j0 k a0 bt340.1 (decide (a0 > 250000000000)))) else (sprlaw15_DateForms.j0 k a0 bt340.1 true)) else (sprlaw15_DateForms.j0 k a0 bt340.1 true))) else (some false))) = some r := h
  clear h
  replace H := Option.bind_eq_some_iff.mp H
  obtain ⟨t339, A20, H⟩ := H
  replace H : (if t339 = true then ((date_Print.f k a0).bind fun bt340 => (if bt340.2 = 0 then (if (bt340.1.size : Int) = 29 then (if a0 < 0 then (sprlaw15_DateForms.j0 k a0 bt340.1 true) else (sprlaw15_DateForms.j0 k a0 bt340.1 (decide (a0 > 250000000000)))) else (sprlaw15_DateForms.j0 k a0 bt340.1 true)) else (sprlaw15_DateForms.j0 k a0 bt340.1 true))) else (some false)) = some r := H
  have A2 := Aside0.mk A20
  clear A20
  by_cases c3 : t339 = true
  · subst c3
    have H1 : ((date_Print.f k a0).bind fun bt340 => (if bt340.2 = 0 then (if (bt340.1.size : Int) = 29 then (if a0 < 0 then (sprlaw15_DateForms.j0 k a0 bt340.1 true) else (sprlaw15_DateForms.j0 k a0 bt340.1 (decide (a0 > 250000000000)))) else (sprlaw15_DateForms.j0 k a0 bt340.1 true)) else (sprlaw15_DateForms.j0 k a0 bt340.1 true))) = some r := by rw [if_pos rfl] at H; exact H
    clear H
    have H := H1
    clear H1
    replace H := Option.bind_eq_some_iff.mp H
    obtain ⟨⟨t340, t341⟩, A40, H⟩ := H
    replace H : (if t341 = 0 then (if (t340.size : Int) = 29 then (if a0 < 0 then (sprlaw15_DateForms.j0 k a0 t340 true) else (sprlaw15_DateForms.j0 k a0 t340 (decide (a0 > 250000000000)))) else (sprlaw15_DateForms.j0 k a0 t340 true)) else (sprlaw15_DateForms.j0 k a0 t340 true)) = some r := H
    have A4 := Aside0.mk A40
    clear A40
    have HC5 := Aside0.mk H
    clear H
    go_enter Tryd.func6, Tryd.ntmps6
    go_upto_region 4 with (first | ((with_reducible refine gate_callee (f := 9) rfl ?_); refine goesL_ (some 13) rfl rfl Tryd.func9 (by kernel_rfl) rfl #[] rfl (by (try simp only [List.map_toArray, List.map_cons, List.map_nil]); first | done | rfl | (simp only [List.length_drop, List.length_take]; rfl)) ?_; (with_reducible refine (sprlaw15_first.calls k  true _ A2.out).mono ?_); rintro e w6 ⟨rfl, hb⟩; refine ⟨_, rfl, ?_⟩; have n0_ := Aside0.mk (below_step (by repeat (first | (with_reducible first | exact HB.out | apply below_alloc | apply pw_below_drewN | apply below_drew1) | exact HB.out)) hb); clear HB; have HB := n0_; clear n0_; (try clear hb); (try clear hb2); (try clear hk); (try clear hi)) | ((with_reducible refine gate_callee (f := 12) rfl ?_); refine goesL_ (some 17) rfl rfl Tryd.func12 (by kernel_rfl) rfl #[.int .i64 a0] rfl (by (try simp only [List.map_toArray, List.map_cons, List.map_nil]); first | done | rfl | (simp only [List.length_drop, List.length_take]; rfl)) ?_; (with_reducible refine (date_Print.calls k a0 t340 t341 _ A4.out (tab_below HT0.out (by repeat (first | (with_reducible first | exact HB.out | apply below_alloc | apply pw_below_drewN | apply below_drew1) | exact HB.out)))).mono ?_); rintro e w7 ⟨rfl, hb⟩; refine ⟨_, rfl, ?_⟩; have n0_ := Aside0.mk (below_step (by repeat (first | (with_reducible first | exact HB.out | apply below_alloc | apply pw_below_drewN | apply below_drew1) | exact HB.out)) hb); clear HB; have HB := n0_; clear n0_; (try clear hb); (try clear hb2); (try clear hk); (try clear hi)))
    (try simp only [Act.put, List.setIfInBounds_toArray, List.set_cons_zero, List.set_cons_succ])
    go_cut [34] (fun v34 wc => ∃ (kq : Nat) (x34_4 : Bool), v34 = .bool x34_4 ∧ Aside0 (sprlaw15_DateForms.j0 kq a0 t340 x34_4 = some r) ∧ Aside0 (kq ≤ k) ∧ Aside0 (Below w.heap.size w wc))
    case first =>
      have H := HC5.out
      clear HC5
      by_cases c8 : t341 = 0
      · rw [if_pos c8] at H
        have c8b0 : (t341 == 0) = true := beq_iff_eq.mpr c8
        have c8b1 : (t341 != 0) = false := bne_eq_false_iff_eq.mpr c8
        clear c8
        (first | rw [c8b0] | (simp only [i64_w, i32_w]; rw [c8b0]) | skip)
        by_cases c9 : (t340.size : Int) = 29
        · rw [if_pos c9] at H
          have c9b0 : ((t340.size : Int) == 29) = true := beq_iff_eq.mpr c9
          have c9b1 : ((t340.size : Int) != 29) = false := bne_eq_false_iff_eq.mpr c9
          clear c9
          by_cases c10 : a0 < 0
          · rw [if_pos c10] at H
            have c10b0 : decide (a0 < 0) = true := decide_eq_true c10
            clear c10
            have H' := Aside0.mk H
            clear H
            go_wp2
            go_meet
            case rel => exact ⟨_, (true), (by first | rfl | (simp; done) | (simp [*]; done)), H', ⟨by first | omega | exact Nat.le_refl _⟩, ⟨by repeat (first | (with_reducible first | exact HB.out | apply below_alloc | apply pw_below_drewN | apply below_drew1) | exact HB.out)⟩⟩
          · rw [if_neg c10] at H
            have c10b0 : decide (a0 < 0) = false := decide_eq_false c10
            clear c10
            have H' := Aside0.mk H
            clear H
            go_wp2
            go_meet
            case rel => exact ⟨_, (decide (a0 > 250000000000)), (by first | rfl | (simp; done) | (simp [*]; done)), H', ⟨by first | omega | exact Nat.le_refl _⟩, ⟨by repeat (first | (with_reducible first | exact HB.out | apply below_alloc | apply pw_below_drewN | apply below_drew1) | exact HB.out)⟩⟩
        · rw [if_neg c9] at H
          have c9b0 : ((t340.size : Int) == 29) = false := beq_eq_false_iff_ne.mpr c9
          have c9b1 : ((t340.size : Int) != 29) = true := bne_iff_ne.mpr c9
          have H' := Aside0.mk H
          clear H
          go_wp2
          go_meet
          case rel => exact ⟨_, (true), (by first | rfl | (simp; done) | (simp [*]; done)), H', ⟨by first | omega | exact Nat.le_refl _⟩, ⟨by repeat (first | (with_reducible first | exact HB.out | apply below_alloc | apply pw_below_drewN | apply below_drew1) | exact HB.out)⟩⟩
      · rw [if_neg c8] at H
        have c8b0 : (t341 == 0) = false := beq_eq_false_iff_ne.mpr c8
        have c8b1 : (t341 != 0) = true := bne_iff_ne.mpr c8
        (first | rw [c8b0] | (simp only [i64_w, i32_w]; rw [c8b0]) | skip)
        have H' := Aside0.mk H
        clear H
        go_wp2
        go_meet
        case rel => exact ⟨_, (true), (by first | rfl | (simp; done) | (simp [*]; done)), H', ⟨by first | omega | exact Nat.le_refl _⟩, ⟨by repeat (first | (with_reducible first | exact HB.out | apply below_alloc | apply pw_below_drewN | apply below_drew1) | exact HB.out)⟩⟩
    case rest =>
      clear HC5
      try clear c1
      try clear p2
      try clear c3
      try clear c6
      try clear c8
      try clear c8b0
      try clear c8b1
      try clear c9
      try clear c9b0
      try clear c9b1
      try clear c10
      try clear c10b0
      obtain ⟨kq, x34_4, rfl, HA, HJ4, HB⟩ := hcut
      cases kq with
      | zero => exact absurd HA.out (by simp [sprlaw15_DateForms.j0])
      | succ kj4 =>
        have H := HA.out
        clear HA
        simp only [sprlaw15_DateForms.j0] at H
        by_cases c11 : x34_4 = true
        · subst c11
          have H1 : ((sprlaw15_first.f kj4).bind fun t342 => (some t342)) = some r := by rw [if_pos rfl] at H; exact H
          clear H
          have H := H1
          clear H1
          replace H := Option.bind_eq_some_iff.mp H
          obtain ⟨t342, A120, H⟩ := H
          replace H : (some t342) = some r := H
          have A12 := Aside0.mk A120
          clear A120
          obtain rfl := Option.some.inj H
          go_wp2_with (first | ((with_reducible refine gate_callee (f := 9) rfl ?_); refine goesL_ (some 35) rfl rfl Tryd.func9 (by kernel_rfl) rfl #[] rfl (by (try simp only [List.map_toArray, List.map_cons, List.map_nil]); first | done | rfl | (simp only [List.length_drop, List.length_take]; rfl)) ?_; (with_reducible refine (sprlaw15_first.calls kj4  t342 _ A12.out).mono ?_); rintro e w13 ⟨rfl, hb⟩; refine ⟨_, rfl, ?_⟩; have n0_ := Aside0.mk (below_step (by repeat (first | (with_reducible first | exact HB.out | apply below_alloc | apply pw_below_drewN | apply below_drew1) | exact HB.out)) hb); clear HB; have HB := n0_; clear n0_; (try clear hb); (try clear hb2); (try clear hk); (try clear hi)))
          go_ret
          exact ⟨by first | rfl | (simp [errW_none, errW_some] <;> rfl) | (simp [*, errW_none, errW_some] <;> rfl), by repeat (first | (with_reducible first | exact HB.out | apply below_alloc | apply pw_below_drewN | apply below_drew1) | exact HB.out)⟩
        · replace c11 := Bool.eq_false_iff.mpr c11
          subst c11
          have H1 : (sprlaw15_DateForms.l0 kj4 a0 t340 (([(⟨#[83, 117, 110, 100, 97, 121]⟩ : ByteArray), (⟨#[77, 111, 110, 100, 97, 121]⟩ : ByteArray), (⟨#[84, 117, 101, 115, 100, 97, 121]⟩ : ByteArray), (⟨#[87, 101, 100, 110, 101, 115, 100, 97, 121]⟩ : ByteArray), (⟨#[84, 104, 117, 114, 115, 100, 97, 121]⟩ : ByteArray), (⟨#[70, 114, 105, 100, 97, 121]⟩ : ByteArray), (⟨#[83, 97, 116, 117, 114, 100, 97, 121]⟩ : ByteArray)] : List ByteArray)) (⟨#[]⟩ : ByteArray) 0) = some r := by rw [if_neg (show ¬ (false = true) by decide)] at H; exact H
          clear H
          have H := H1
          clear H1
          obtain ⟨y343, hy343⟩ : ∃ y_ : List ByteArray, y_ = (([(⟨#[83, 117, 110, 100, 97, 121]⟩ : ByteArray), (⟨#[77, 111, 110, 100, 97, 121]⟩ : ByteArray), (⟨#[84, 117, 101, 115, 100, 97, 121]⟩ : ByteArray), (⟨#[87, 101, 100, 110, 101, 115, 100, 97, 121]⟩ : ByteArray), (⟨#[84, 104, 117, 114, 115, 100, 97, 121]⟩ : ByteArray), (⟨#[70, 114, 105, 100, 97, 121]⟩ : ByteArray), (⟨#[83, 97, 116, 117, 114, 100, 97, 121]⟩ : ByteArray)] : List ByteArray)) := ⟨_, rfl⟩
          replace H : (sprlaw15_DateForms.l0 kj4 a0 t340 y343 (⟨#[]⟩ : ByteArray) 0) = some r := by first | (rw [hy343]; with_reducible exact H) | (have H2_ := (Option.bind_some _ _).symm.trans H; rw [hy343]; with_reducible exact H2_) | (have H2_ := (Option.bind_some _ _).symm.trans H; with_reducible exact H2_) | with_reducible exact H | (rw [hy343]; exact H) | exact H
          have Ny343 := Aside0.mk hy343
          clear hy343
          have H' := Aside0.mk H
          clear H
          go_wp2_with (first | ((with_reducible refine gate_dst (N := 36) rfl ?_); (try (refine gate_guard (by rfl) ?_; dsimp only)); refine Kd.R_lit Kd.string _ 9 ?hg (N := 36) ?hd (xs := ([(⟨#[83, 117, 110, 100, 97, 121]⟩ : ByteArray), (⟨#[77, 111, 110, 100, 97, 121]⟩ : ByteArray), (⟨#[84, 117, 101, 115, 100, 97, 121]⟩ : ByteArray), (⟨#[87, 101, 100, 110, 101, 115, 100, 97, 121]⟩ : ByteArray), (⟨#[84, 104, 117, 114, 115, 100, 97, 121]⟩ : ByteArray), (⟨#[70, 114, 105, 100, 97, 121]⟩ : ByteArray), (⟨#[83, 97, 116, 117, 114, 100, 97, 121]⟩ : ByteArray)] : List ByteArray)) (inner := [.string (⟨#[83, 117, 110, 100, 97, 121]⟩ : ByteArray), .string (⟨#[77, 111, 110, 100, 97, 121]⟩ : ByteArray), .string (⟨#[84, 117, 101, 115, 100, 97, 121]⟩ : ByteArray), .string (⟨#[87, 101, 100, 110, 101, 115, 100, 97, 121]⟩ : ByteArray), .string (⟨#[84, 104, 117, 114, 115, 100, 97, 121]⟩ : ByteArray), .string (⟨#[70, 114, 105, 100, 97, 121]⟩ : ByteArray), .string (⟨#[83, 97, 116, 117, 114, 100, 97, 121]⟩ : ByteArray)]) (ok := fun _ => True) (okp := fun _ => True) ?hr ?hp (fun _ hk => hk) trivial (Below.refl _ _) (Nat.le_refl _) (by simp) ?_; (case hd => rfl); (case hg => rfl); (case hr => first | (go_simp; done) | (go_simp; rfl)); (case hp => exact (Reps.one (show Kd.M Kd.string _ _ _ (⟨#[83, 117, 110, 100, 97, 121]⟩ : ByteArray) [.string (⟨#[83, 117, 110, 100, 97, 121]⟩ : ByteArray)] from rfl) (Reps.one (show Kd.M Kd.string _ _ _ (⟨#[77, 111, 110, 100, 97, 121]⟩ : ByteArray) [.string (⟨#[77, 111, 110, 100, 97, 121]⟩ : ByteArray)] from rfl) (Reps.one (show Kd.M Kd.string _ _ _ (⟨#[84, 117, 101, 115, 100, 97, 121]⟩ : ByteArray) [.string (⟨#[84, 117, 101, 115, 100, 97, 121]⟩ : ByteArray)] from rfl) (Reps.one (show Kd.M Kd.string _ _ _ (⟨#[87, 101, 100, 110, 101, 115, 100, 97, 121]⟩ : ByteArray) [.string (⟨#[87, 101, 100, 110, 101, 115, 100, 97, 121]⟩ : ByteArray)] from rfl) (Reps.one (show Kd.M Kd.string _ _ _ (⟨#[84, 104, 117, 114, 115, 100, 97, 121]⟩ : ByteArray) [.string (⟨#[84, 104, 117, 114, 115, 100, 97, 121]⟩ : ByteArray)] from rfl) (Reps.one (show Kd.M Kd.string _ _ _ (⟨#[70, 114, 105, 100, 97, 121]⟩ : ByteArray) [.string (⟨#[70, 114, 105, 100, 97, 121]⟩ : ByteArray)] from rfl) (Reps.one (show Kd.M Kd.string _ _ _ (⟨#[83, 97, 116, 117, 114, 100, 97, 121]⟩ : ByteArray) [.string (⟨#[83, 97, 116, 117, 114, 100, 97, 121]⟩ : ByteArray)] from rfl) (Reps.none _ _))))))))); intro v344 w14 ho15 hb hg_ hnew_; clear hg_ hnew_; (first | rw [← Ny343.out] at ho15 | (simp only [Int.reduceToNat] at ho15; rw [← Ny343.out] at ho15)); have n0_ := Aside0.mk (Kd.R_lower ho15 (below_size (by repeat (first | (with_reducible first | exact HB.out | apply below_alloc | apply pw_below_drewN | apply below_drew1) | exact HB.out)))); have n1_ := Aside0.mk (below_step (by repeat (first | (with_reducible first | exact HB.out | apply below_alloc | apply pw_below_drewN | apply below_drew1) | exact HB.out)) hb); clear HB; have HO345 := n0_; have HB := n1_; clear n0_ n1_; clear hb ho15))
          go_loopg [6, 7] kj4 (fun kq v6 v7 w' => ∃ (x6_2 : ByteArray) (x7_2 : Int), v6 = .string x6_2 ∧ v7 = .int .i64 x7_2 ∧ Aside0 (sprlaw15_DateForms.l0 kq a0 t340 y343 x6_2 x7_2 = some r) ∧ Aside0 (kq ≤ kj4) ∧ Aside0 (Kd.R Kd.string 9 w' w.heap.size (fun _ => True) v344 y343) ∧ Aside0 (Below w.heap.size w w'))
          case atStart => exact ⟨((⟨#[]⟩ : ByteArray)), (0), (by first | rfl | (simp; done) | (simp [*]; done)), (by first | rfl | (simp; done) | (simp [*]; done)), H', ⟨Nat.le_refl _⟩, ⟨by (with_reducible repeat (first | apply Kd.R_alloc | apply Kd.R_drewN | apply Kd.R_drew)); exact HO345.out⟩, ⟨by repeat (first | (with_reducible first | exact HB.out | apply below_alloc | apply pw_below_drewN | apply below_drew1) | exact HB.out)⟩⟩
          case round =>
            clear H'
            try clear c1
            try clear p2
            try clear c3
            try clear c6
            try clear c8
            try clear c8b0
            try clear c8b1
            try clear c9
            try clear c9b0
            try clear c9b1
            try clear c10
            try clear c10b0
            try clear c11
            try clear c12
            try clear p2
            obtain ⟨x6_2, x7_2, rfl, rfl, HA, HK2, HO_5, HB⟩ := hrel
            cases gk with
            | zero => exact absurd HA.out (by simp [sprlaw15_DateForms.l0])
            | succ k2 =>
              have H := HA.out
              clear HA
              simp only [sprlaw15_DateForms.l0] at H
              by_cases c16 : x7_2 < (y343.length : Int)
              · rw [if_pos c16] at H
                have c16b0 : decide (x7_2 < (y343.length : Int)) = true := decide_eq_true c16
                clear c16
                by_cases c17 : 0 ≤ x7_2
                · rw [if_pos c17] at H
                  have c17b0 : decide (0 ≤ x7_2) = true := decide_eq_true c17
                  clear c17
                  by_cases c18 : 0 ≤ 3
                  · rw [if_pos c18] at H
                    have c18b0 := eq_true c18
                    have c18b1 : decide (0 ≤ 3) = true := decide_eq_true c18
                    clear c18
                    by_cases c19 : 3 ≤ ((rdOf ByteArray.empty y343 x7_2).size : Int)
                    · rw [if_pos c19] at H
                      have c19b0 := eq_true c19
                      have c19b1 : decide (3 ≤ ((rdOf ByteArray.empty y343 x7_2).size : Int)) = true := decide_eq_true c19
                      clear c19
                      have c20b0 := eq_true (of_decide_eq_true (by first | (with_reducible assumption) | assumption) : 0 ≤ 3)
                      by_cases c21 : 3 ≤ (t340.size : Int)
                      · rw [if_pos c21] at H
                        have c21b0 := eq_true c21
                        have c21b1 : decide (3 ≤ (t340.size : Int)) = true := decide_eq_true c21
                        clear c21
                        by_cases c22 : ((rdOf ByteArray.empty y343 x7_2).extract 0 3).toList = (t340.extract 0 3).toList
                        · rw [if_pos c22] at H
                          have c22b0 : (((rdOf ByteArray.empty y343 x7_2).extract 0 3).toList == (t340.extract 0 3).toList) = true := beq_iff_eq.mpr c22
                          have c22b1 : (((rdOf ByteArray.empty y343 x7_2).extract 0 3).toList != (t340.extract 0 3).toList) = false := bne_eq_false_iff_eq.mpr c22
                          clear c22
                          have H' := Aside0.mk H
                          clear H
                          obtain ⟨Ao23, co23, eo23⟩ := Kd.R_slice HO_5.out
                          subst eo23
                          try go_wp2
                          have n0_ := Aside0.mk (Kd.R_drew HO_5.out)
                          have n1_ := Aside0.mk (below_drew1 HB.out)
                          clear HO_5
                          clear HB
                          have HO_5 := n0_
                          have HB := n1_
                          clear n0_ n1_
                          have p346 : 0 ≤ (x7_2 : Int) := of_decide_eq_true (by first | (with_reducible assumption) | assumption)
                          have q346 : x7_2 < (y343.length : Int) := of_decide_eq_true (by first | (with_reducible assumption) | assumption)
                          obtain ⟨ad346, e346, hx346_0⟩ := Kd.at_string (Kd.R_reads' HO_5.out).2.2 x7_2 p346 q346
                          cases e346
                          replace p346 := eq_true p346
                          replace q346 := eq_true q346
                          refine start_ (n := 8) (S := fun w' => w'.cell? (ad346.add (x7_2).toNat) = some (.string (rdOf ByteArray.empty y343 x7_2))) (ds := []) #[false, false, false, false, false, false, false, false] (by kernel_rfl) rfl rfl (hx346_0) (fun hHeld => ?_); refine with_tabW sprlaw15_DateForms.tab11 sprlaw15_DateForms.bits11 (fun HT_ HW_ => ?_)
                          generalize wr.drew = w24 at HO_5 HB hx346_0 hHeld ⊢
                          refine pure_ (i := 0) (N := some 43) (v := ?_) (a' := ?_) #[true, false, false, false, false, false, false, false] rfl rfl (any_of HT_.out (by kernel_rfl)) (fun _ _ _ h => h) (Or.inl ⟨by rfl, ?_⟩) ?_ ?_
                          rotate_left
                          · intro w'
                            go_simp
                            with_reducible rfl
                          rotate_left
                          · simp only [Act.put, List.setIfInBounds_toArray, List.set_cons_zero, List.set_cons_succ, i64_w, i32_w]
                            rfl
                          refine pure_ (i := 1) (N := some 44) (v := ?_) (a' := ?_) #[true, true, false, false, false, false, false, false] rfl rfl (any_of HT_.out (by kernel_rfl)) (fun _ _ _ h => h) (Or.inl ⟨by rfl, ?_⟩) ?_ ?_
                          rotate_left
                          · intro w'
                            go_simp
                            with_reducible rfl
                          rotate_left
                          · simp only [Act.put, List.setIfInBounds_toArray, List.set_cons_zero, List.set_cons_succ, i64_w, i32_w]
                            rfl
                          refine pure_ (i := 2) (N := some 45) (v := ?_) (a' := ?_) #[true, true, true, false, false, false, false, false] rfl rfl (any_of HT_.out (by kernel_rfl)) (fun _ _ _ h => h) (Or.inl ⟨by rfl, ?_⟩) ?_ ?_
                          rotate_left
                          · intro w'
                            go_simp
                            with_reducible rfl
                          rotate_left
                          · simp only [Act.put, List.setIfInBounds_toArray, List.set_cons_zero, List.set_cons_succ, i64_w, i32_w]
                            rfl
                          refine pure_ (i := 5) (N := some 48) (v := ?_) (a' := ?_) #[true, true, true, false, false, true, false, false] rfl rfl (any_of HT_.out (by kernel_rfl)) (fun _ _ _ h => h) (Or.inl ⟨by rfl, ?_⟩) ?_ ?_
                          rotate_left
                          · intro w'
                            go_simp
                            with_reducible rfl
                          rotate_left
                          · simp only [Act.put, List.setIfInBounds_toArray, List.set_cons_zero, List.set_cons_succ, i64_w, i32_w]
                            rfl
                          refine pure_ (i := 6) (N := some 49) (v := ?_) (a' := ?_) #[true, true, true, false, false, true, true, false] rfl rfl (any_of HT_.out (by kernel_rfl)) (fun _ _ _ h => h) (Or.inl ⟨by rfl, ?_⟩) ?_ ?_
                          rotate_left
                          · intro w'
                            go_simp
                            with_reducible rfl
                          rotate_left
                          · simp only [Act.put, List.setIfInBounds_toArray, List.set_cons_zero, List.set_cons_succ, i64_w, i32_w]
                            rfl
                          refine take_ (i := 3) (N := some 46) (v := ?_) (a' := ?_) #[true, true, true, true, false, true, true, false] rfl rfl (take_ofW HT_.out HW_.out (by kernel_rfl)) (fun _ _ _ h => h) (Or.inl ⟨by rfl, ?_⟩) hHeld ?_ ?_
                          rotate_left
                          · intro w' s0
                            go_simp
                            with_reducible rfl
                          rotate_left
                          · simp only [Act.put, List.setIfInBounds_toArray, List.set_cons_zero, List.set_cons_succ, i64_w, i32_w]
                            rfl
                          refine pure_ (i := 4) (N := some 47) (v := ?_) (a' := ?_) #[true, true, true, true, true, true, true, false] rfl rfl (any_of HT_.out (by kernel_rfl)) (fun _ _ _ h => h) (Or.inl ⟨by rfl, ?_⟩) ?_ ?_
                          rotate_left
                          · intro w'
                            go_simp
                            with_reducible rfl
                          rotate_left
                          · simp only [Act.put, List.setIfInBounds_toArray, List.set_cons_zero, List.set_cons_succ, i64_w, i32_w]
                            rfl
                          refine pure_ (i := 7) (N := some 50) (v := ?_) (a' := ?_) #[true, true, true, true, true, true, true, true] rfl rfl (any_of HT_.out (by kernel_rfl)) (fun _ _ _ h => h) (Or.inl ⟨by rfl, ?_⟩) ?_ ?_
                          rotate_left
                          · intro w'
                            go_simp
                            with_reducible rfl
                          rotate_left
                          · simp only [Act.put, List.setIfInBounds_toArray, List.set_cons_zero, List.set_cons_succ, i64_w, i32_w]
                            rfl
                          refine done_ (done_of HT_.out (by kernel_rfl)) ?_
                          have p347 : 0 ≤ (x7_2 : Int) := of_decide_eq_true (by first | (with_reducible assumption) | assumption)
                          have q347 : x7_2 < (y343.length : Int) := of_decide_eq_true (by first | (with_reducible assumption) | assumption)
                          obtain ⟨ad347, e347, hx347_0⟩ := Kd.at_string (Kd.R_reads' HO_5.out).2.2 x7_2 p347 q347
                          obtain rfl : ad346 = ad347 := (by injection e347)
                          replace p347 := eq_true p347
                          replace q347 := eq_true q347
                          try go_wp2
                          go_roundg k2
                          case measure => have := HJ4.out; have := HK2.out; omega
                          case rel => exact ⟨(rdOf ByteArray.empty y343 x7_2), (wrap64 (x7_2 + 1)), (by first | rfl | (simp; done) | (simp [*]; done)), (by first | rfl | (simp; done) | (simp [*]; done)), H', ⟨by have := HJ4.out; have := HK2.out; omega⟩, ⟨by (with_reducible repeat (first | apply Kd.R_alloc | apply Kd.R_drewN | apply Kd.R_drew)); exact HO_5.out⟩, ⟨by repeat (first | (with_reducible first | exact HB.out | apply below_alloc | apply pw_below_drewN | apply below_drew1) | exact HB.out)⟩⟩
                        · rw [if_neg c22] at H
                          have c22b0 : (((rdOf ByteArray.empty y343 x7_2).extract 0 3).toList == (t340.extract 0 3).toList) = false := beq_eq_false_iff_ne.mpr c22
                          have c22b1 : (((rdOf ByteArray.empty y343 x7_2).extract 0 3).toList != (t340.extract 0 3).toList) = true := bne_iff_ne.mpr c22
                          have H' := Aside0.mk H
                          clear H
                          obtain ⟨Ao25, co25, eo25⟩ := Kd.R_slice HO_5.out
                          subst eo25
                          try go_wp2
                          have n0_ := Aside0.mk (Kd.R_drew HO_5.out)
                          have n1_ := Aside0.mk (below_drew1 HB.out)
                          clear HO_5
                          clear HB
                          have HO_5 := n0_
                          have HB := n1_
                          clear n0_ n1_
                          have p346 : 0 ≤ (x7_2 : Int) := of_decide_eq_true (by first | (with_reducible assumption) | assumption)
                          have q346 : x7_2 < (y343.length : Int) := of_decide_eq_true (by first | (with_reducible assumption) | assumption)
                          obtain ⟨ad346, e346, hx346_0⟩ := Kd.at_string (Kd.R_reads' HO_5.out).2.2 x7_2 p346 q346
                          cases e346
                          replace p346 := eq_true p346
                          replace q346 := eq_true q346
                          refine start_ (n := 8) (S := fun w' => w'.cell? (ad346.add (x7_2).toNat) = some (.string (rdOf ByteArray.empty y343 x7_2))) (ds := []) #[false, false, false, false, false, false, false, false] (by kernel_rfl) rfl rfl (hx346_0) (fun hHeld => ?_); refine with_tabW sprlaw15_DateForms.tab11 sprlaw15_DateForms.bits11 (fun HT_ HW_ => ?_)
                          generalize wr.drew = w26 at HO_5 HB hx346_0 hHeld ⊢
                          refine pure_ (i := 0) (N := some 43) (v := ?_) (a' := ?_) #[true, false, false, false, false, false, false, false] rfl rfl (any_of HT_.out (by kernel_rfl)) (fun _ _ _ h => h) (Or.inl ⟨by rfl, ?_⟩) ?_ ?_
                          rotate_left
                          · intro w'
                            go_simp
                            with_reducible rfl
                          rotate_left
                          · simp only [Act.put, List.setIfInBounds_toArray, List.set_cons_zero, List.set_cons_succ, i64_w, i32_w]
                            rfl
                          refine pure_ (i := 1) (N := some 44) (v := ?_) (a' := ?_) #[true, true, false, false, false, false, false, false] rfl rfl (any_of HT_.out (by kernel_rfl)) (fun _ _ _ h => h) (Or.inl ⟨by rfl, ?_⟩) ?_ ?_
                          rotate_left
                          · intro w'
                            go_simp
                            with_reducible rfl
                          rotate_left
                          · simp only [Act.put, List.setIfInBounds_toArray, List.set_cons_zero, List.set_cons_succ, i64_w, i32_w]
                            rfl
                          refine pure_ (i := 2) (N := some 45) (v := ?_) (a' := ?_) #[true, true, true, false, false, false, false, false] rfl rfl (any_of HT_.out (by kernel_rfl)) (fun _ _ _ h => h) (Or.inl ⟨by rfl, ?_⟩) ?_ ?_
                          rotate_left
                          · intro w'
                            go_simp
                            with_reducible rfl
                          rotate_left
                          · simp only [Act.put, List.setIfInBounds_toArray, List.set_cons_zero, List.set_cons_succ, i64_w, i32_w]
                            rfl
                          refine pure_ (i := 5) (N := some 48) (v := ?_) (a' := ?_) #[true, true, true, false, false, true, false, false] rfl rfl (any_of HT_.out (by kernel_rfl)) (fun _ _ _ h => h) (Or.inl ⟨by rfl, ?_⟩) ?_ ?_
                          rotate_left
                          · intro w'
                            go_simp
                            with_reducible rfl
                          rotate_left
                          · simp only [Act.put, List.setIfInBounds_toArray, List.set_cons_zero, List.set_cons_succ, i64_w, i32_w]
                            rfl
                          refine pure_ (i := 6) (N := some 49) (v := ?_) (a' := ?_) #[true, true, true, false, false, true, true, false] rfl rfl (any_of HT_.out (by kernel_rfl)) (fun _ _ _ h => h) (Or.inl ⟨by rfl, ?_⟩) ?_ ?_
                          rotate_left
                          · intro w'
                            go_simp
                            with_reducible rfl
                          rotate_left
                          · simp only [Act.put, List.setIfInBounds_toArray, List.set_cons_zero, List.set_cons_succ, i64_w, i32_w]
                            rfl
                          refine take_ (i := 3) (N := some 46) (v := ?_) (a' := ?_) #[true, true, true, true, false, true, true, false] rfl rfl (take_ofW HT_.out HW_.out (by kernel_rfl)) (fun _ _ _ h => h) (Or.inl ⟨by rfl, ?_⟩) hHeld ?_ ?_
                          rotate_left
                          · intro w' s0
                            go_simp
                            with_reducible rfl
                          rotate_left
                          · simp only [Act.put, List.setIfInBounds_toArray, List.set_cons_zero, List.set_cons_succ, i64_w, i32_w]
                            rfl
                          refine pure_ (i := 4) (N := some 47) (v := ?_) (a' := ?_) #[true, true, true, true, true, true, true, false] rfl rfl (any_of HT_.out (by kernel_rfl)) (fun _ _ _ h => h) (Or.inl ⟨by rfl, ?_⟩) ?_ ?_
                          rotate_left
                          · intro w'
                            go_simp
                            with_reducible rfl
                          rotate_left
                          · simp only [Act.put, List.setIfInBounds_toArray, List.set_cons_zero, List.set_cons_succ, i64_w, i32_w]
                            rfl
                          refine pure_ (i := 7) (N := some 50) (v := ?_) (a' := ?_) #[true, true, true, true, true, true, true, true] rfl rfl (any_of HT_.out (by kernel_rfl)) (fun _ _ _ h => h) (Or.inl ⟨by rfl, ?_⟩) ?_ ?_
                          rotate_left
                          · intro w'
                            go_simp
                            with_reducible rfl
                          rotate_left
                          · simp only [Act.put, List.setIfInBounds_toArray, List.set_cons_zero, List.set_cons_succ, i64_w, i32_w]
                            rfl
                          refine done_ (done_of HT_.out (by kernel_rfl)) ?_
                          try go_wp2
                          go_roundg k2
                          case measure => have := HJ4.out; have := HK2.out; omega
                          case rel => exact ⟨(x6_2), (wrap64 (x7_2 + 1)), (by first | rfl | (simp; done) | (simp [*]; done)), (by first | rfl | (simp; done) | (simp [*]; done)), H', ⟨by have := HJ4.out; have := HK2.out; omega⟩, ⟨by (with_reducible repeat (first | apply Kd.R_alloc | apply Kd.R_drewN | apply Kd.R_drew)); exact HO_5.out⟩, ⟨by repeat (first | (with_reducible first | exact HB.out | apply below_alloc | apply pw_below_drewN | apply below_drew1) | exact HB.out)⟩⟩
                      · rw [if_neg c21] at H
                        exact absurd H (by simp)
                    · rw [if_neg c19] at H
                      exact absurd H (by simp)
                  · rw [if_neg c18] at H
                    exact absurd H (by simp)
                · rw [if_neg c17] at H
                  exact absurd H (by simp)
              · rw [if_neg c16] at H
                have c16b0 : decide (x7_2 < (y343.length : Int)) = false := decide_eq_false c16
                clear c16
                by_cases c27 : 5 ≤ 7
                · rw [if_pos c27] at H
                  have c27b0 := eq_true c27
                  have c27b1 : decide (5 ≤ 7) = true := decide_eq_true c27
                  clear c27
                  by_cases c28 : 7 ≤ (t340.size : Int)
                  · rw [if_pos c28] at H
                    have c28b0 := eq_true c28
                    have c28b1 : decide (7 ≤ (t340.size : Int)) = true := decide_eq_true c28
                    clear c28
                    by_cases c29 : 0 < ((t340.extract 5 7).size : Int)
                    · rw [if_pos c29] at H
                      try (have c29s := c29; simp [go_sem] at c29s)
                      have c29b0 : decide (0 < ((t340.extract 5 7).size : Int)) = true := decide_eq_true c29
                      have c29b1 : decide (0 < (t340.extract 5 7).size) = true := decide_eq_true (by omega)
                      clear c29
                      by_cases c31 : (bt (t340.extract 5 7) 0) = 48
                      · rw [if_pos c31] at H
                        have c31b0 : ((bt (t340.extract 5 7) 0) == 48) = true := beq_iff_eq.mpr c31
                        have c31b1 : ((bt (t340.extract 5 7) 0) != 48) = false := bne_eq_false_iff_eq.mpr c31
                        clear c31
                        by_cases c32 : 1 ≤ ((t340.extract 5 7).size : Int)
                        · rw [if_pos c32] at H
                          have c32b0 := eq_true c32
                          have c32b1 : decide (1 ≤ ((t340.extract 5 7).size : Int)) = true := decide_eq_true c32
                          clear c32
                          by_cases c33 : 1 + ((t340.extract 5 7).extract 1 (t340.extract 5 7).size).size ≤ 9223372036854775807
                          · rw [if_pos c33] at H
                            have c33b0 := eq_true c33
                            have c33b1 : decide (1 + ((t340.extract 5 7).extract 1 (t340.extract 5 7).size).size ≤ 9223372036854775807) = true := decide_eq_true c33
                            try have c33b2 : (9223372036854775807 < 1 + ((t340.extract 5 7).extract 1 (t340.extract 5 7).size).size) = False := eq_false (Nat.not_lt.2 c33)
                            (try (have c33s := c33; simp [go_sem] at c33s)); (try (have c33z := eq_false (Nat.not_lt.2 c33s)))
                            by_cases c34 : x6_2.size + 2 ≤ 9223372036854775807
                            · rw [if_pos c34] at H
                              have c34b0 := eq_true c34
                              have c34b1 : decide (x6_2.size + 2 ≤ 9223372036854775807) = true := decide_eq_true c34
                              try have c34b2 : (9223372036854775807 < x6_2.size + 2) = False := eq_false (Nat.not_lt.2 c34)
                              have c35b0 := eq_true (of_decide_eq_true (by first | (with_reducible assumption) | assumption) : 5 ≤ 7)
                              have c36b0 := eq_true (of_decide_eq_true (by first | (with_reducible assumption) | assumption) : 7 ≤ (t340.size : Int))
                              by_cases c37 : (x6_2 ++ (⟨#[44, 32]⟩ : ByteArray)).size + (t340.extract 5 7).size ≤ 9223372036854775807
                              · rw [if_pos c37] at H
                                have c37b0 := eq_true c37
                                have c37b1 : decide ((x6_2 ++ (⟨#[44, 32]⟩ : ByteArray)).size + (t340.extract 5 7).size ≤ 9223372036854775807) = true := decide_eq_true c37
                                try have c37b2 : (9223372036854775807 < (x6_2 ++ (⟨#[44, 32]⟩ : ByteArray)).size + (t340.extract 5 7).size) = False := eq_false (Nat.not_lt.2 c37)
                                (try (have c37y : (9223372036854775807 < x6_2.size + 2 + (min 7 t340.size - 5)) = False := eq_false (by have zz := c37; simp only [ByteArray.size_append, ByteArray.size_extract, Nat.sub_zero] at zz; have e0 : (⟨#[44, 32]⟩ : ByteArray).size = 2 := rfl; omega)))
                                (try (have c37s := c37; simp [go_sem] at c37s)); (try (have c37z := eq_false (Nat.not_lt.2 c37s)))
                                by_cases c38 : ((x6_2 ++ (⟨#[44, 32]⟩ : ByteArray)) ++ (t340.extract 5 7)).size + 1 ≤ 9223372036854775807
                                · rw [if_pos c38] at H
                                  have c38b0 := eq_true c38
                                  have c38b1 : decide (((x6_2 ++ (⟨#[44, 32]⟩ : ByteArray)) ++ (t340.extract 5 7)).size + 1 ≤ 9223372036854775807) = true := decide_eq_true c38
                                  try have c38b2 : (9223372036854775807 < ((x6_2 ++ (⟨#[44, 32]⟩ : ByteArray)) ++ (t340.extract 5 7)).size + 1) = False := eq_false (Nat.not_lt.2 c38)
                                  (try (have c38y : (9223372036854775807 < x6_2.size + 2 + (min 7 t340.size - 5) + 1) = False := eq_false (by have zz := c38; simp only [ByteArray.size_append, ByteArray.size_extract, Nat.sub_zero] at zz; have e0 : (⟨#[44, 32]⟩ : ByteArray).size = 2 := rfl; omega)))
                                  (try (have c38s := c38; simp [go_sem] at c38s)); (try (have c38z := eq_false (Nat.not_lt.2 c38s)))
                                  by_cases c39 : 8 ≤ 11
                                  · rw [if_pos c39] at H
                                    have c39b0 := eq_true c39
                                    have c39b1 : decide (8 ≤ 11) = true := decide_eq_true c39
                                    clear c39
                                    by_cases c40 : 11 ≤ (t340.size : Int)
                                    · rw [if_pos c40] at H
                                      have c40b0 := eq_true c40
                                      have c40b1 : decide (11 ≤ (t340.size : Int)) = true := decide_eq_true c40
                                      clear c40
                                      by_cases c41 : (((x6_2 ++ (⟨#[44, 32]⟩ : ByteArray)) ++ (t340.extract 5 7)) ++ (⟨#[45]⟩ : ByteArray)).size + (t340.extract 8 11).size ≤ 9223372036854775807
                                      · rw [if_pos c41] at H
                                        have c41b0 := eq_true c41
                                        have c41b1 : decide ((((x6_2 ++ (⟨#[44, 32]⟩ : ByteArray)) ++ (t340.extract 5 7)) ++ (⟨#[45]⟩ : ByteArray)).size + (t340.extract 8 11).size ≤ 9223372036854775807) = true := decide_eq_true c41
                                        try have c41b2 : (9223372036854775807 < (((x6_2 ++ (⟨#[44, 32]⟩ : ByteArray)) ++ (t340.extract 5 7)) ++ (⟨#[45]⟩ : ByteArray)).size + (t340.extract 8 11).size) = False := eq_false (Nat.not_lt.2 c41)
                                        (try (have c41y : (9223372036854775807 < x6_2.size + 2 + (min 7 t340.size - 5) + 1 + (min 11 t340.size - 8)) = False := eq_false (by have zz := c41; simp only [ByteArray.size_append, ByteArray.size_extract, Nat.sub_zero] at zz; have e0 : (⟨#[44, 32]⟩ : ByteArray).size = 2 := rfl; have e1 : (⟨#[45]⟩ : ByteArray).size = 1 := rfl; omega)))
                                        (try (have c41s := c41; simp [go_sem] at c41s)); (try (have c41z := eq_false (Nat.not_lt.2 c41s)))
                                        by_cases c42 : ((((x6_2 ++ (⟨#[44, 32]⟩ : ByteArray)) ++ (t340.extract 5 7)) ++ (⟨#[45]⟩ : ByteArray)) ++ (t340.extract 8 11)).size + 1 ≤ 9223372036854775807
                                        · rw [if_pos c42] at H
                                          have c42b0 := eq_true c42
                                          have c42b1 : decide (((((x6_2 ++ (⟨#[44, 32]⟩ : ByteArray)) ++ (t340.extract 5 7)) ++ (⟨#[45]⟩ : ByteArray)) ++ (t340.extract 8 11)).size + 1 ≤ 9223372036854775807) = true := decide_eq_true c42
                                          try have c42b2 : (9223372036854775807 < ((((x6_2 ++ (⟨#[44, 32]⟩ : ByteArray)) ++ (t340.extract 5 7)) ++ (⟨#[45]⟩ : ByteArray)) ++ (t340.extract 8 11)).size + 1) = False := eq_false (Nat.not_lt.2 c42)
                                          (try (have c42y : (9223372036854775807 < x6_2.size + 2 + (min 7 t340.size - 5) + 1 + (min 11 t340.size - 8) + 1) = False := eq_false (by have zz := c42; simp only [ByteArray.size_append, ByteArray.size_extract, Nat.sub_zero] at zz; have e0 : (⟨#[44, 32]⟩ : ByteArray).size = 2 := rfl; have e1 : (⟨#[45]⟩ : ByteArray).size = 1 := rfl; omega)))
                                          (try (have c42s := c42; simp [go_sem] at c42s)); (try (have c42z := eq_false (Nat.not_lt.2 c42s)))
                                          by_cases c43 : 14 ≤ 16
                                          · rw [if_pos c43] at H
                                            have c43b0 := eq_true c43
                                            have c43b1 : decide (14 ≤ 16) = true := decide_eq_true c43
                                            clear c43
                                            by_cases c44 : 16 ≤ (t340.size : Int)
                                            · rw [if_pos c44] at H
                                              have c44b0 := eq_true c44
                                              have c44b1 : decide (16 ≤ (t340.size : Int)) = true := decide_eq_true c44
                                              clear c44
                                              by_cases c45 : (((((x6_2 ++ (⟨#[44, 32]⟩ : ByteArray)) ++ (t340.extract 5 7)) ++ (⟨#[45]⟩ : ByteArray)) ++ (t340.extract 8 11)) ++ (⟨#[45]⟩ : ByteArray)).size + (t340.extract 14 16).size ≤ 9223372036854775807
                                              · rw [if_pos c45] at H
                                                have c45b0 := eq_true c45
                                                have c45b1 : decide ((((((x6_2 ++ (⟨#[44, 32]⟩ : ByteArray)) ++ (t340.extract 5 7)) ++ (⟨#[45]⟩ : ByteArray)) ++ (t340.extract 8 11)) ++ (⟨#[45]⟩ : ByteArray)).size + (t340.extract 14 16).size ≤ 9223372036854775807) = true := decide_eq_true c45
                                                try have c45b2 : (9223372036854775807 < (((((x6_2 ++ (⟨#[44, 32]⟩ : ByteArray)) ++ (t340.extract 5 7)) ++ (⟨#[45]⟩ : ByteArray)) ++ (t340.extract 8 11)) ++ (⟨#[45]⟩ : ByteArray)).size + (t340.extract 14 16).size) = False := eq_false (Nat.not_lt.2 c45)
                                                (try (have c45y : (9223372036854775807 < x6_2.size + 2 + (min 7 t340.size - 5) + 1 + (min 11 t340.size - 8) + 1 + (min 16 t340.size - 14)) = False := eq_false (by have zz := c45; simp only [ByteArray.size_append, ByteArray.size_extract, Nat.sub_zero] at zz; have e0 : (⟨#[44, 32]⟩ : ByteArray).size = 2 := rfl; have e1 : (⟨#[45]⟩ : ByteArray).size = 1 := rfl; omega)))
                                                (try (have c45s := c45; simp [go_sem] at c45s)); (try (have c45z := eq_false (Nat.not_lt.2 c45s)))
                                                by_cases c46 : ((((((x6_2 ++ (⟨#[44, 32]⟩ : ByteArray)) ++ (t340.extract 5 7)) ++ (⟨#[45]⟩ : ByteArray)) ++ (t340.extract 8 11)) ++ (⟨#[45]⟩ : ByteArray)) ++ (t340.extract 14 16)).size + 1 ≤ 9223372036854775807
                                                · rw [if_pos c46] at H
                                                  have c46b0 := eq_true c46
                                                  have c46b1 : decide (((((((x6_2 ++ (⟨#[44, 32]⟩ : ByteArray)) ++ (t340.extract 5 7)) ++ (⟨#[45]⟩ : ByteArray)) ++ (t340.extract 8 11)) ++ (⟨#[45]⟩ : ByteArray)) ++ (t340.extract 14 16)).size + 1 ≤ 9223372036854775807) = true := decide_eq_true c46
                                                  try have c46b2 : (9223372036854775807 < ((((((x6_2 ++ (⟨#[44, 32]⟩ : ByteArray)) ++ (t340.extract 5 7)) ++ (⟨#[45]⟩ : ByteArray)) ++ (t340.extract 8 11)) ++ (⟨#[45]⟩ : ByteArray)) ++ (t340.extract 14 16)).size + 1) = False := eq_false (Nat.not_lt.2 c46)
                                                  (try (have c46y : (9223372036854775807 < x6_2.size + 2 + (min 7 t340.size - 5) + 1 + (min 11 t340.size - 8) + 1 + (min 16 t340.size - 14) + 1) = False := eq_false (by have zz := c46; simp only [ByteArray.size_append, ByteArray.size_extract, Nat.sub_zero] at zz; have e0 : (⟨#[44, 32]⟩ : ByteArray).size = 2 := rfl; have e1 : (⟨#[45]⟩ : ByteArray).size = 1 := rfl; omega)))
                                                  (try (have c46s := c46; simp [go_sem] at c46s)); (try (have c46z := eq_false (Nat.not_lt.2 c46s)))
                                                  by_cases c47 : 17 ≤ 25
                                                  · rw [if_pos c47] at H
                                                    have c47b0 := eq_true c47
                                                    have c47b1 : decide (17 ≤ 25) = true := decide_eq_true c47
                                                    clear c47
                                                    by_cases c48 : 25 ≤ (t340.size : Int)
                                                    · rw [if_pos c48] at H
                                                      have c48b0 := eq_true c48
                                                      have c48b1 : decide (25 ≤ (t340.size : Int)) = true := decide_eq_true c48
                                                      clear c48
                                                      by_cases c49 : (((((((x6_2 ++ (⟨#[44, 32]⟩ : ByteArray)) ++ (t340.extract 5 7)) ++ (⟨#[45]⟩ : ByteArray)) ++ (t340.extract 8 11)) ++ (⟨#[45]⟩ : ByteArray)) ++ (t340.extract 14 16)) ++ (⟨#[32]⟩ : ByteArray)).size + (t340.extract 17 25).size ≤ 9223372036854775807
                                                      · rw [if_pos c49] at H
                                                        have c49b0 := eq_true c49
                                                        have c49b1 : decide ((((((((x6_2 ++ (⟨#[44, 32]⟩ : ByteArray)) ++ (t340.extract 5 7)) ++ (⟨#[45]⟩ : ByteArray)) ++ (t340.extract 8 11)) ++ (⟨#[45]⟩ : ByteArray)) ++ (t340.extract 14 16)) ++ (⟨#[32]⟩ : ByteArray)).size + (t340.extract 17 25).size ≤ 9223372036854775807) = true := decide_eq_true c49
                                                        try have c49b2 : (9223372036854775807 < (((((((x6_2 ++ (⟨#[44, 32]⟩ : ByteArray)) ++ (t340.extract 5 7)) ++ (⟨#[45]⟩ : ByteArray)) ++ (t340.extract 8 11)) ++ (⟨#[45]⟩ : ByteArray)) ++ (t340.extract 14 16)) ++ (⟨#[32]⟩ : ByteArray)).size + (t340.extract 17 25).size) = False := eq_false (Nat.not_lt.2 c49)
                                                        (try (have c49y : (9223372036854775807 < x6_2.size + 2 + (min 7 t340.size - 5) + 1 + (min 11 t340.size - 8) + 1 + (min 16 t340.size - 14) + 1 + (min 25 t340.size - 17)) = False := eq_false (by have zz := c49; simp only [ByteArray.size_append, ByteArray.size_extract, Nat.sub_zero] at zz; have e0 : (⟨#[44, 32]⟩ : ByteArray).size = 2 := rfl; have e1 : (⟨#[45]⟩ : ByteArray).size = 1 := rfl; have e2 : (⟨#[32]⟩ : ByteArray).size = 1 := rfl; omega)))
                                                        (try (have c49s := c49; simp [go_sem] at c49s)); (try (have c49z := eq_false (Nat.not_lt.2 c49s)))
                                                        by_cases c50 : ((((((((x6_2 ++ (⟨#[44, 32]⟩ : ByteArray)) ++ (t340.extract 5 7)) ++ (⟨#[45]⟩ : ByteArray)) ++ (t340.extract 8 11)) ++ (⟨#[45]⟩ : ByteArray)) ++ (t340.extract 14 16)) ++ (⟨#[32]⟩ : ByteArray)) ++ (t340.extract 17 25)).size + 4 ≤ 9223372036854775807
                                                        · rw [if_pos c50] at H
                                                          have c50b0 := eq_true c50
                                                          have c50b1 : decide (((((((((x6_2 ++ (⟨#[44, 32]⟩ : ByteArray)) ++ (t340.extract 5 7)) ++ (⟨#[45]⟩ : ByteArray)) ++ (t340.extract 8 11)) ++ (⟨#[45]⟩ : ByteArray)) ++ (t340.extract 14 16)) ++ (⟨#[32]⟩ : ByteArray)) ++ (t340.extract 17 25)).size + 4 ≤ 9223372036854775807) = true := decide_eq_true c50
                                                          try have c50b2 : (9223372036854775807 < ((((((((x6_2 ++ (⟨#[44, 32]⟩ : ByteArray)) ++ (t340.extract 5 7)) ++ (⟨#[45]⟩ : ByteArray)) ++ (t340.extract 8 11)) ++ (⟨#[45]⟩ : ByteArray)) ++ (t340.extract 14 16)) ++ (⟨#[32]⟩ : ByteArray)) ++ (t340.extract 17 25)).size + 4) = False := eq_false (Nat.not_lt.2 c50)
                                                          (try (have c50y : (9223372036854775807 < x6_2.size + 2 + (min 7 t340.size - 5) + 1 + (min 11 t340.size - 8) + 1 + (min 16 t340.size - 14) + 1 + (min 25 t340.size - 17) + 4) = False := eq_false (by have zz := c50; simp only [ByteArray.size_append, ByteArray.size_extract, Nat.sub_zero] at zz; have e0 : (⟨#[44, 32]⟩ : ByteArray).size = 2 := rfl; have e1 : (⟨#[45]⟩ : ByteArray).size = 1 := rfl; have e2 : (⟨#[32]⟩ : ByteArray).size = 1 := rfl; omega)))
                                                          (try (have c50s := c50; simp [go_sem] at c50s)); (try (have c50z := eq_false (Nat.not_lt.2 c50s)))
                                                          replace H := Option.bind_eq_some_iff.mp H
                                                          obtain ⟨⟨t348, t349⟩, A510, H⟩ := H
                                                          replace H : (if 0 ≤ 3 then (if 3 ≤ (t340.size : Int) then (if (t340.extract 0 3).size + 1 ≤ 9223372036854775807 then (if ((t340.extract 0 3) ++ (⟨#[32]⟩ : ByteArray)).size + (t340.extract 8 11).size ≤ 9223372036854775807 then (if (((t340.extract 0 3) ++ (⟨#[32]⟩ : ByteArray)) ++ (t340.extract 8 11)).size + 1 ≤ 9223372036854775807 then (if ((((t340.extract 0 3) ++ (⟨#[32]⟩ : ByteArray)) ++ (t340.extract 8 11)) ++ (⟨#[32]⟩ : ByteArray)).size + ((⟨#[32]⟩ : ByteArray) ++ ((t340.extract 5 7).extract 1 (t340.extract 5 7).size)).size ≤ 9223372036854775807 then (if (((((t340.extract 0 3) ++ (⟨#[32]⟩ : ByteArray)) ++ (t340.extract 8 11)) ++ (⟨#[32]⟩ : ByteArray)) ++ ((⟨#[32]⟩ : ByteArray) ++ ((t340.extract 5 7).extract 1 (t340.extract 5 7).size))).size + 1 ≤ 9223372036854775807 then (if ((((((t340.extract 0 3) ++ (⟨#[32]⟩ : ByteArray)) ++ (t340.extract 8 11)) ++ (⟨#[32]⟩ : ByteArray)) ++ ((⟨#[32]⟩ : ByteArray) ++ ((t340.extract 5 7).extract 1 (t340.extract 5 7).size))) ++ (⟨#[32]⟩ : ByteArray)).size + (t340.extract 17 25).size ≤ 9223372036854775807 then (if (((((((t340.extract 0 3) ++ (⟨#[32]⟩ : ByteArray)) ++ (t340.extract 8 11)) ++ (⟨#[32]⟩ : ByteArray)) ++ ((⟨#[32]⟩ : ByteArray) ++ ((t340.extract 5 7).extract 1 (t340.extract 5 7).size))) ++ (⟨#[32]⟩ : ByteArray)) ++ (t340.extract 17 25)).size + 1 ≤ 9223372036854775807 then (if 12 ≤ 16 then (if ((((((((t340.extract 0 3) ++ (⟨#[32]⟩ : ByteArray)) ++ (t340.extract 8 11)) ++ (⟨#[32]⟩ : ByteArray)) ++ ((⟨#[32]⟩ : ByteArray) ++ ((t340.extract 5 7).extract 1 (t340.extract 5 7).size))) ++ (⟨#[32]⟩ : ByteArray)) ++ (t340.extract 17 25)) ++ (⟨#[32]⟩ : ByteArray)).size + (t340.extract 12 16).size ≤ 9223372036854775807 then ((date_Parse.f k2 (((((((((t340.extract 0 3) ++ (⟨#[32]⟩ : ByteArray)) ++ (t340.extract 8 11)) ++ (⟨#[32]⟩ : ByteArray)) ++ ((⟨#[32]⟩ : ByteArray) ++ ((t340.extract 5 7).extract 1 (t340.extract 5 7).size))) ++ (⟨#[32]⟩ : ByteArray)) ++ (t340.extract 17 25)) ++ (⟨#[32]⟩ : ByteArray)) ++ (t340.extract 12 16)) a0).bind fun bt350 => ((sprlaw15_first.f k2).bind fun t352 => (if t352 = true then (if x6_2.toList = ([] : List UInt8) then (some false) else (if t349 = 0 then (if bt350.2 = 0 then (if t348 = a0 then (some (bt350.1 == a0)) else (some false)) else (some false)) else (some false))) else (some false)))) else (none)) else (none)) else (none)) else (none)) else (none)) else (none)) else (none)) else (none)) else (none)) else (none)) else (none)) = some r := H
                                                          have A51 := Aside0.mk A510
                                                          clear A510
                                                          by_cases c52 : 0 ≤ 3
                                                          · rw [if_pos c52] at H
                                                            have c52b0 := eq_true c52
                                                            have c52b1 : decide (0 ≤ 3) = true := decide_eq_true c52
                                                            clear c52
                                                            by_cases c53 : 3 ≤ (t340.size : Int)
                                                            · rw [if_pos c53] at H
                                                              have c53b0 := eq_true c53
                                                              have c53b1 : decide (3 ≤ (t340.size : Int)) = true := decide_eq_true c53
                                                              clear c53
                                                              by_cases c54 : (t340.extract 0 3).size + 1 ≤ 9223372036854775807
                                                              · rw [if_pos c54] at H
                                                                have c54b0 := eq_true c54
                                                                have c54b1 : decide ((t340.extract 0 3).size + 1 ≤ 9223372036854775807) = true := decide_eq_true c54
                                                                try have c54b2 : (9223372036854775807 < (t340.extract 0 3).size + 1) = False := eq_false (Nat.not_lt.2 c54)
                                                                (try (have c54y : (9223372036854775807 < min 3 t340.size + 1) = False := eq_false (by have zz := c54; simp only [ByteArray.size_append, ByteArray.size_extract, Nat.sub_zero] at zz; omega)))
                                                                (try (have c54s := c54; simp [go_sem] at c54s)); (try (have c54z := eq_false (Nat.not_lt.2 c54s)))
                                                                have c55b0 := eq_true (of_decide_eq_true (by first | (with_reducible assumption) | assumption) : 8 ≤ 11)
                                                                have c56b0 := eq_true (of_decide_eq_true (by first | (with_reducible assumption) | assumption) : 11 ≤ (t340.size : Int))
                                                                by_cases c57 : ((t340.extract 0 3) ++ (⟨#[32]⟩ : ByteArray)).size + (t340.extract 8 11).size ≤ 9223372036854775807
                                                                · rw [if_pos c57] at H
                                                                  have c57b0 := eq_true c57
                                                                  have c57b1 : decide (((t340.extract 0 3) ++ (⟨#[32]⟩ : ByteArray)).size + (t340.extract 8 11).size ≤ 9223372036854775807) = true := decide_eq_true c57
                                                                  try have c57b2 : (9223372036854775807 < ((t340.extract 0 3) ++ (⟨#[32]⟩ : ByteArray)).size + (t340.extract 8 11).size) = False := eq_false (Nat.not_lt.2 c57)
                                                                  (try (have c57y : (9223372036854775807 < min 3 t340.size + 1 + (min 11 t340.size - 8)) = False := eq_false (by have zz := c57; simp only [ByteArray.size_append, ByteArray.size_extract, Nat.sub_zero] at zz; have e0 : (⟨#[32]⟩ : ByteArray).size = 1 := rfl; omega)))
                                                                  (try (have c57s := c57; simp [go_sem] at c57s)); (try (have c57z := eq_false (Nat.not_lt.2 c57s)))
                                                                  by_cases c58 : (((t340.extract 0 3) ++ (⟨#[32]⟩ : ByteArray)) ++ (t340.extract 8 11)).size + 1 ≤ 9223372036854775807
                                                                  · rw [if_pos c58] at H
                                                                    have c58b0 := eq_true c58
                                                                    have c58b1 : decide ((((t340.extract 0 3) ++ (⟨#[32]⟩ : ByteArray)) ++ (t340.extract 8 11)).size + 1 ≤ 9223372036854775807) = true := decide_eq_true c58
                                                                    try have c58b2 : (9223372036854775807 < (((t340.extract 0 3) ++ (⟨#[32]⟩ : ByteArray)) ++ (t340.extract 8 11)).size + 1) = False := eq_false (Nat.not_lt.2 c58)
                                                                    (try (have c58y : (9223372036854775807 < min 3 t340.size + 1 + (min 11 t340.size - 8) + 1) = False := eq_false (by have zz := c58; simp only [ByteArray.size_append, ByteArray.size_extract, Nat.sub_zero] at zz; have e0 : (⟨#[32]⟩ : ByteArray).size = 1 := rfl; omega)))
                                                                    (try (have c58s := c58; simp [go_sem] at c58s)); (try (have c58z := eq_false (Nat.not_lt.2 c58s)))
                                                                    by_cases c59 : ((((t340.extract 0 3) ++ (⟨#[32]⟩ : ByteArray)) ++ (t340.extract 8 11)) ++ (⟨#[32]⟩ : ByteArray)).size + ((⟨#[32]⟩ : ByteArray) ++ ((t340.extract 5 7).extract 1 (t340.extract 5 7).size)).size ≤ 9223372036854775807
                                                                    · rw [if_pos c59] at H
                                                                      have c59b0 := eq_true c59
                                                                      have c59b1 : decide (((((t340.extract 0 3) ++ (⟨#[32]⟩ : ByteArray)) ++ (t340.extract 8 11)) ++ (⟨#[32]⟩ : ByteArray)).size + ((⟨#[32]⟩ : ByteArray) ++ ((t340.extract 5 7).extract 1 (t340.extract 5 7).size)).size ≤ 9223372036854775807) = true := decide_eq_true c59
                                                                      try have c59b2 : (9223372036854775807 < ((((t340.extract 0 3) ++ (⟨#[32]⟩ : ByteArray)) ++ (t340.extract 8 11)) ++ (⟨#[32]⟩ : ByteArray)).size + ((⟨#[32]⟩ : ByteArray) ++ ((t340.extract 5 7).extract 1 (t340.extract 5 7).size)).size) = False := eq_false (Nat.not_lt.2 c59)
                                                                      (try (have c59y : (9223372036854775807 < min 3 t340.size + 1 + (min 11 t340.size - 8) + 1 + (1 + (min 7 t340.size - 5 - 1))) = False := eq_false (by have zz := c59; simp only [ByteArray.size_append, ByteArray.size_extract, Nat.sub_zero] at zz; have e0 : (⟨#[32]⟩ : ByteArray).size = 1 := rfl; omega)))
                                                                      (try (have c59s := c59; simp [go_sem] at c59s)); (try (have c59z := eq_false (Nat.not_lt.2 c59s)))
                                                                      by_cases c60 : (((((t340.extract 0 3) ++ (⟨#[32]⟩ : ByteArray)) ++ (t340.extract 8 11)) ++ (⟨#[32]⟩ : ByteArray)) ++ ((⟨#[32]⟩ : ByteArray) ++ ((t340.extract 5 7).extract 1 (t340.extract 5 7).size))).size + 1 ≤ 9223372036854775807
                                                                      · rw [if_pos c60] at H
                                                                        have c60b0 := eq_true c60
                                                                        have c60b1 : decide ((((((t340.extract 0 3) ++ (⟨#[32]⟩ : ByteArray)) ++ (t340.extract 8 11)) ++ (⟨#[32]⟩ : ByteArray)) ++ ((⟨#[32]⟩ : ByteArray) ++ ((t340.extract 5 7).extract 1 (t340.extract 5 7).size))).size + 1 ≤ 9223372036854775807) = true := decide_eq_true c60
                                                                        try have c60b2 : (9223372036854775807 < (((((t340.extract 0 3) ++ (⟨#[32]⟩ : ByteArray)) ++ (t340.extract 8 11)) ++ (⟨#[32]⟩ : ByteArray)) ++ ((⟨#[32]⟩ : ByteArray) ++ ((t340.extract 5 7).extract 1 (t340.extract 5 7).size))).size + 1) = False := eq_false (Nat.not_lt.2 c60)
                                                                        (try (have c60y : (9223372036854775807 < min 3 t340.size + 1 + (min 11 t340.size - 8) + 1 + (1 + (min 7 t340.size - 5 - 1)) + 1) = False := eq_false (by have zz := c60; simp only [ByteArray.size_append, ByteArray.size_extract, Nat.sub_zero] at zz; have e0 : (⟨#[32]⟩ : ByteArray).size = 1 := rfl; omega)))
                                                                        (try (have c60s := c60; simp [go_sem] at c60s)); (try (have c60z := eq_false (Nat.not_lt.2 c60s)))
                                                                        have c61b0 := eq_true (of_decide_eq_true (by first | (with_reducible assumption) | assumption) : 17 ≤ 25)
                                                                        have c62b0 := eq_true (of_decide_eq_true (by first | (with_reducible assumption) | assumption) : 25 ≤ (t340.size : Int))
                                                                        by_cases c63 : ((((((t340.extract 0 3) ++ (⟨#[32]⟩ : ByteArray)) ++ (t340.extract 8 11)) ++ (⟨#[32]⟩ : ByteArray)) ++ ((⟨#[32]⟩ : ByteArray) ++ ((t340.extract 5 7).extract 1 (t340.extract 5 7).size))) ++ (⟨#[32]⟩ : ByteArray)).size + (t340.extract 17 25).size ≤ 9223372036854775807
                                                                        · rw [if_pos c63] at H
                                                                          have c63b0 := eq_true c63
                                                                          have c63b1 : decide (((((((t340.extract 0 3) ++ (⟨#[32]⟩ : ByteArray)) ++ (t340.extract 8 11)) ++ (⟨#[32]⟩ : ByteArray)) ++ ((⟨#[32]⟩ : ByteArray) ++ ((t340.extract 5 7).extract 1 (t340.extract 5 7).size))) ++ (⟨#[32]⟩ : ByteArray)).size + (t340.extract 17 25).size ≤ 9223372036854775807) = true := decide_eq_true c63
                                                                          try have c63b2 : (9223372036854775807 < ((((((t340.extract 0 3) ++ (⟨#[32]⟩ : ByteArray)) ++ (t340.extract 8 11)) ++ (⟨#[32]⟩ : ByteArray)) ++ ((⟨#[32]⟩ : ByteArray) ++ ((t340.extract 5 7).extract 1 (t340.extract 5 7).size))) ++ (⟨#[32]⟩ : ByteArray)).size + (t340.extract 17 25).size) = False := eq_false (Nat.not_lt.2 c63)
                                                                          (try (have c63y : (9223372036854775807 < min 3 t340.size + 1 + (min 11 t340.size - 8) + 1 + (1 + (min 7 t340.size - 5 - 1)) + 1 + (min 25 t340.size - 17)) = False := eq_false (by have zz := c63; simp only [ByteArray.size_append, ByteArray.size_extract, Nat.sub_zero] at zz; have e0 : (⟨#[32]⟩ : ByteArray).size = 1 := rfl; omega)))
                                                                          (try (have c63s := c63; simp [go_sem] at c63s)); (try (have c63z := eq_false (Nat.not_lt.2 c63s)))
                                                                          by_cases c64 : (((((((t340.extract 0 3) ++ (⟨#[32]⟩ : ByteArray)) ++ (t340.extract 8 11)) ++ (⟨#[32]⟩ : ByteArray)) ++ ((⟨#[32]⟩ : ByteArray) ++ ((t340.extract 5 7).extract 1 (t340.extract 5 7).size))) ++ (⟨#[32]⟩ : ByteArray)) ++ (t340.extract 17 25)).size + 1 ≤ 9223372036854775807
                                                                          · rw [if_pos c64] at H
                                                                            have c64b0 := eq_true c64
                                                                            have c64b1 : decide ((((((((t340.extract 0 3) ++ (⟨#[32]⟩ : ByteArray)) ++ (t340.extract 8 11)) ++ (⟨#[32]⟩ : ByteArray)) ++ ((⟨#[32]⟩ : ByteArray) ++ ((t340.extract 5 7).extract 1 (t340.extract 5 7).size))) ++ (⟨#[32]⟩ : ByteArray)) ++ (t340.extract 17 25)).size + 1 ≤ 9223372036854775807) = true := decide_eq_true c64
                                                                            try have c64b2 : (9223372036854775807 < (((((((t340.extract 0 3) ++ (⟨#[32]⟩ : ByteArray)) ++ (t340.extract 8 11)) ++ (⟨#[32]⟩ : ByteArray)) ++ ((⟨#[32]⟩ : ByteArray) ++ ((t340.extract 5 7).extract 1 (t340.extract 5 7).size))) ++ (⟨#[32]⟩ : ByteArray)) ++ (t340.extract 17 25)).size + 1) = False := eq_false (Nat.not_lt.2 c64)
                                                                            (try (have c64y : (9223372036854775807 < min 3 t340.size + 1 + (min 11 t340.size - 8) + 1 + (1 + (min 7 t340.size - 5 - 1)) + 1 + (min 25 t340.size - 17) + 1) = False := eq_false (by have zz := c64; simp only [ByteArray.size_append, ByteArray.size_extract, Nat.sub_zero] at zz; have e0 : (⟨#[32]⟩ : ByteArray).size = 1 := rfl; omega)))
                                                                            (try (have c64s := c64; simp [go_sem] at c64s)); (try (have c64z := eq_false (Nat.not_lt.2 c64s)))
                                                                            by_cases c65 : 12 ≤ 16
                                                                            · rw [if_pos c65] at H
                                                                              have c65b0 := eq_true c65
                                                                              have c65b1 : decide (12 ≤ 16) = true := decide_eq_true c65
                                                                              clear c65
                                                                              have c66b0 := eq_true (of_decide_eq_true (by first | (with_reducible assumption) | assumption) : 16 ≤ (t340.size : Int))
                                                                              by_cases c67 : ((((((((t340.extract 0 3) ++ (⟨#[32]⟩ : ByteArray)) ++ (t340.extract 8 11)) ++ (⟨#[32]⟩ : ByteArray)) ++ ((⟨#[32]⟩ : ByteArray) ++ ((t340.extract 5 7).extract 1 (t340.extract 5 7).size))) ++ (⟨#[32]⟩ : ByteArray)) ++ (t340.extract 17 25)) ++ (⟨#[32]⟩ : ByteArray)).size + (t340.extract 12 16).size ≤ 9223372036854775807
                                                                              · rw [if_pos c67] at H
                                                                                have c67b0 := eq_true c67
                                                                                have c67b1 : decide (((((((((t340.extract 0 3) ++ (⟨#[32]⟩ : ByteArray)) ++ (t340.extract 8 11)) ++ (⟨#[32]⟩ : ByteArray)) ++ ((⟨#[32]⟩ : ByteArray) ++ ((t340.extract 5 7).extract 1 (t340.extract 5 7).size))) ++ (⟨#[32]⟩ : ByteArray)) ++ (t340.extract 17 25)) ++ (⟨#[32]⟩ : ByteArray)).size + (t340.extract 12 16).size ≤ 9223372036854775807) = true := decide_eq_true c67
                                                                                try have c67b2 : (9223372036854775807 < ((((((((t340.extract 0 3) ++ (⟨#[32]⟩ : ByteArray)) ++ (t340.extract 8 11)) ++ (⟨#[32]⟩ : ByteArray)) ++ ((⟨#[32]⟩ : ByteArray) ++ ((t340.extract 5 7).extract 1 (t340.extract 5 7).size))) ++ (⟨#[32]⟩ : ByteArray)) ++ (t340.extract 17 25)) ++ (⟨#[32]⟩ : ByteArray)).size + (t340.extract 12 16).size) = False := eq_false (Nat.not_lt.2 c67)
                                                                                (try (have c67y : (9223372036854775807 < min 3 t340.size + 1 + (min 11 t340.size - 8) + 1 + (1 + (min 7 t340.size - 5 - 1)) + 1 + (min 25 t340.size - 17) + 1 + (min 16 t340.size - 12)) = False := eq_false (by have zz := c67; simp only [ByteArray.size_append, ByteArray.size_extract, Nat.sub_zero] at zz; have e0 : (⟨#[32]⟩ : ByteArray).size = 1 := rfl; omega)))
                                                                                (try (have c67s := c67; simp [go_sem] at c67s)); (try (have c67z := eq_false (Nat.not_lt.2 c67s)))
                                                                                replace H := Option.bind_eq_some_iff.mp H
                                                                                obtain ⟨⟨t350, t351⟩, A680, H⟩ := H
                                                                                replace H : ((sprlaw15_first.f k2).bind fun t352 => (if t352 = true then (if x6_2.toList = ([] : List UInt8) then (some false) else (if t349 = 0 then (if t351 = 0 then (if t348 = a0 then (some (t350 == a0)) else (some false)) else (some false)) else (some false))) else (some false))) = some r := H
                                                                                have A68 := Aside0.mk A680
                                                                                clear A680
                                                                                replace H := Option.bind_eq_some_iff.mp H
                                                                                obtain ⟨t352, A690, H⟩ := H
                                                                                replace H : (if t352 = true then (if x6_2.toList = ([] : List UInt8) then (some false) else (if t349 = 0 then (if t351 = 0 then (if t348 = a0 then (some (t350 == a0)) else (some false)) else (some false)) else (some false))) else (some false)) = some r := H
                                                                                have A69 := Aside0.mk A690
                                                                                clear A690
                                                                                by_cases c70 : t352 = true
                                                                                · subst c70
                                                                                  have H1 : (if x6_2.toList = ([] : List UInt8) then (some false) else (if t349 = 0 then (if t351 = 0 then (if t348 = a0 then (some (t350 == a0)) else (some false)) else (some false)) else (some false))) = some r := by rw [if_pos rfl] at H; exact H
                                                                                  clear H
                                                                                  have H := H1
                                                                                  clear H1
                                                                                  by_cases c71 : x6_2.toList = ([] : List UInt8)
                                                                                  · rw [if_pos c71] at H
                                                                                    have c71b0 : (x6_2.toList == ([] : List UInt8)) = true := beq_iff_eq.mpr c71
                                                                                    have c71b1 : (x6_2.toList != ([] : List UInt8)) = false := bne_eq_false_iff_eq.mpr c71
                                                                                    clear c71
                                                                                    exact absurd ((Option.some.inj H).trans hT.out) (by decide)
                                                                                  · rw [if_neg c71] at H
                                                                                    have c71b0 : (x6_2.toList == ([] : List UInt8)) = false := beq_eq_false_iff_ne.mpr c71
                                                                                    have c71b1 : (x6_2.toList != ([] : List UInt8)) = true := bne_iff_ne.mpr c71
                                                                                    by_cases c72 : t349 = 0
                                                                                    · rw [if_pos c72] at H
                                                                                      have c72b0 : (t349 == 0) = true := beq_iff_eq.mpr c72
                                                                                      have c72b1 : (t349 != 0) = false := bne_eq_false_iff_eq.mpr c72
                                                                                      clear c72
                                                                                      by_cases c73 : t351 = 0
                                                                                      · rw [if_pos c73] at H
                                                                                        have c73b0 : (t351 == 0) = true := beq_iff_eq.mpr c73
                                                                                        have c73b1 : (t351 != 0) = false := bne_eq_false_iff_eq.mpr c73
                                                                                        clear c73
                                                                                        by_cases c74 : t348 = a0
                                                                                        · rw [if_pos c74] at H
                                                                                          have c74b0 : (t348 == a0) = true := beq_iff_eq.mpr c74
                                                                                          have c74b1 : (t348 != a0) = false := bne_eq_false_iff_eq.mpr c74
                                                                                          clear c74
                                                                                          obtain rfl := Option.some.inj H
                                                                                          obtain ⟨Ao75, co75, eo75⟩ := Kd.R_slice HO_5.out
                                                                                          subst eo75
                                                                                          have p30 : 0 ≤ (0 : Int) := (by omega)
                                                                                          have q30 : 0 < (t340.extract 5 7).size := (by have : (0 : Int) < ((t340.extract 5 7).size : Int) := of_decide_eq_true (by first | (with_reducible assumption) | assumption); omega)
                                                                                          have hx30 : ∀ h : 0 < (t340.extract 5 7).size, (((t340.extract 5 7)[0]'h).toNat : Int) = bt (t340.extract 5 7) 0 := bt_at (t340.extract 5 7) 0
                                                                                          clear p30
                                                                                          have qi30 : (0 < ((t340.extract 5 7).size : Int)) = True := eq_true (of_decide_eq_true (by first | (with_reducible assumption) | assumption))
                                                                                          replace q30 := eq_true q30
                                                                                          try go_wp2
                                                                                          have n0_ := Aside0.mk (Kd.R_drew HO_5.out)
                                                                                          have n1_ := Aside0.mk (below_drew1 HB.out)
                                                                                          clear HO_5
                                                                                          clear HB
                                                                                          have HO_5 := n0_
                                                                                          have HB := n1_
                                                                                          clear n0_ n1_
                                                                                          refine start_ (n := 25) (S := fun w' => True) (ds := []) #[false, false, false, false, false, false, false, false, false, false, false, false, false, false, false, false, false, false, false, false, false, false, false, false, false] (by kernel_rfl) rfl rfl trivial (fun hHeld => ?_); refine with_tabW sprlaw15_DateForms.tab16 sprlaw15_DateForms.bits16 (fun HT_ HW_ => ?_)
                                                                                          generalize wr.drew = w76 at HO_5 HB hHeld ⊢
                                                                                          refine pure_ (i := 0) (N := some 64) (v := ?_) (a' := ?_) #[true, false, false, false, false, false, false, false, false, false, false, false, false, false, false, false, false, false, false, false, false, false, false, false, false] rfl rfl (any_of HT_.out (by kernel_rfl)) (fun _ _ _ h => h) (Or.inl ⟨by rfl, ?_⟩) ?_ ?_
                                                                                          rotate_left
                                                                                          · intro w'
                                                                                            go_simp
                                                                                            with_reducible rfl
                                                                                          rotate_left
                                                                                          · simp only [Act.put, List.setIfInBounds_toArray, List.set_cons_zero, List.set_cons_succ, i64_w, i32_w]
                                                                                            rfl
                                                                                          refine pure_ (i := 1) (N := some 65) (v := ?_) (a' := ?_) #[true, true, false, false, false, false, false, false, false, false, false, false, false, false, false, false, false, false, false, false, false, false, false, false, false] rfl rfl (any_of HT_.out (by kernel_rfl)) (fun _ _ _ h => h) (Or.inl ⟨by rfl, ?_⟩) ?_ ?_
                                                                                          rotate_left
                                                                                          · intro w'
                                                                                            go_simp
                                                                                            with_reducible rfl
                                                                                          rotate_left
                                                                                          · simp only [Act.put, List.setIfInBounds_toArray, List.set_cons_zero, List.set_cons_succ, i64_w, i32_w]
                                                                                            rfl
                                                                                          refine pure_ (i := 2) (N := some 66) (v := ?_) (a' := ?_) #[true, true, true, false, false, false, false, false, false, false, false, false, false, false, false, false, false, false, false, false, false, false, false, false, false] rfl rfl (any_of HT_.out (by kernel_rfl)) (fun _ _ _ h => h) (Or.inl ⟨by rfl, ?_⟩) ?_ ?_
                                                                                          rotate_left
                                                                                          · intro w'
                                                                                            go_simp
                                                                                            with_reducible rfl
                                                                                          rotate_left
                                                                                          · simp only [Act.put, List.setIfInBounds_toArray, List.set_cons_zero, List.set_cons_succ, i64_w, i32_w]
                                                                                            rfl
                                                                                          refine pure_ (i := 3) (N := some 67) (v := ?_) (a' := ?_) #[true, true, true, true, false, false, false, false, false, false, false, false, false, false, false, false, false, false, false, false, false, false, false, false, false] rfl rfl (any_of HT_.out (by kernel_rfl)) (fun _ _ _ h => h) (Or.inl ⟨by rfl, ?_⟩) ?_ ?_
                                                                                          rotate_left
                                                                                          · intro w'
                                                                                            go_simp
                                                                                            with_reducible rfl
                                                                                          rotate_left
                                                                                          · simp only [Act.put, List.setIfInBounds_toArray, List.set_cons_zero, List.set_cons_succ, i64_w, i32_w]
                                                                                            rfl
                                                                                          refine pure_ (i := 4) (N := some 68) (v := ?_) (a' := ?_) #[true, true, true, true, true, false, false, false, false, false, false, false, false, false, false, false, false, false, false, false, false, false, false, false, false] rfl rfl (any_of HT_.out (by kernel_rfl)) (fun _ _ _ h => h) (Or.inl ⟨by rfl, ?_⟩) ?_ ?_
                                                                                          rotate_left
                                                                                          · intro w'
                                                                                            go_simp
                                                                                            with_reducible rfl
                                                                                          rotate_left
                                                                                          · simp only [Act.put, List.setIfInBounds_toArray, List.set_cons_zero, List.set_cons_succ, i64_w, i32_w]
                                                                                            rfl
                                                                                          refine pure_ (i := 5) (N := some 69) (v := ?_) (a' := ?_) #[true, true, true, true, true, true, false, false, false, false, false, false, false, false, false, false, false, false, false, false, false, false, false, false, false] rfl rfl (any_of HT_.out (by kernel_rfl)) (fun _ _ _ h => h) (Or.inl ⟨by rfl, ?_⟩) ?_ ?_
                                                                                          rotate_left
                                                                                          · intro w'
                                                                                            go_simp
                                                                                            with_reducible rfl
                                                                                          rotate_left
                                                                                          · simp only [Act.put, List.setIfInBounds_toArray, List.set_cons_zero, List.set_cons_succ, i64_w, i32_w]
                                                                                            rfl
                                                                                          refine pure_ (i := 6) (N := some 70) (v := ?_) (a' := ?_) #[true, true, true, true, true, true, true, false, false, false, false, false, false, false, false, false, false, false, false, false, false, false, false, false, false] rfl rfl (any_of HT_.out (by kernel_rfl)) (fun _ _ _ h => h) (Or.inl ⟨by rfl, ?_⟩) ?_ ?_
                                                                                          rotate_left
                                                                                          · intro w'
                                                                                            go_simp
                                                                                            with_reducible rfl
                                                                                          rotate_left
                                                                                          · simp only [Act.put, List.setIfInBounds_toArray, List.set_cons_zero, List.set_cons_succ, i64_w, i32_w]
                                                                                            rfl
                                                                                          refine pure_ (i := 7) (N := some 71) (v := ?_) (a' := ?_) #[true, true, true, true, true, true, true, true, false, false, false, false, false, false, false, false, false, false, false, false, false, false, false, false, false] rfl rfl (any_of HT_.out (by kernel_rfl)) (fun _ _ _ h => h) (Or.inl ⟨by rfl, ?_⟩) ?_ ?_
                                                                                          rotate_left
                                                                                          · intro w'
                                                                                            go_simp
                                                                                            with_reducible rfl
                                                                                          rotate_left
                                                                                          · simp only [Act.put, List.setIfInBounds_toArray, List.set_cons_zero, List.set_cons_succ, i64_w, i32_w]
                                                                                            rfl
                                                                                          refine pure_ (i := 8) (N := some 72) (v := ?_) (a' := ?_) #[true, true, true, true, true, true, true, true, true, false, false, false, false, false, false, false, false, false, false, false, false, false, false, false, false] rfl rfl (any_of HT_.out (by kernel_rfl)) (fun _ _ _ h => h) (Or.inl ⟨by rfl, ?_⟩) ?_ ?_
                                                                                          rotate_left
                                                                                          · intro w'
                                                                                            go_simp
                                                                                            with_reducible rfl
                                                                                          rotate_left
                                                                                          · simp only [Act.put, List.setIfInBounds_toArray, List.set_cons_zero, List.set_cons_succ, i64_w, i32_w]
                                                                                            rfl
                                                                                          refine pure_ (i := 9) (N := some 73) (v := ?_) (a' := ?_) #[true, true, true, true, true, true, true, true, true, true, false, false, false, false, false, false, false, false, false, false, false, false, false, false, false] rfl rfl (any_of HT_.out (by kernel_rfl)) (fun _ _ _ h => h) (Or.inl ⟨by rfl, ?_⟩) ?_ ?_
                                                                                          rotate_left
                                                                                          · intro w'
                                                                                            go_simp
                                                                                            with_reducible rfl
                                                                                          rotate_left
                                                                                          · simp only [Act.put, List.setIfInBounds_toArray, List.set_cons_zero, List.set_cons_succ, i64_w, i32_w]
                                                                                            rfl
                                                                                          refine pure_ (i := 10) (N := some 74) (v := ?_) (a' := ?_) #[true, true, true, true, true, true, true, true, true, true, true, false, false, false, false, false, false, false, false, false, false, false, false, false, false] rfl rfl (any_of HT_.out (by kernel_rfl)) (fun _ _ _ h => h) (Or.inl ⟨by rfl, ?_⟩) ?_ ?_
                                                                                          rotate_left
                                                                                          · intro w'
                                                                                            go_simp
                                                                                            with_reducible rfl
                                                                                          rotate_left
                                                                                          · simp only [Act.put, List.setIfInBounds_toArray, List.set_cons_zero, List.set_cons_succ, i64_w, i32_w]
                                                                                            rfl
                                                                                          refine pure_ (i := 11) (N := some 75) (v := ?_) (a' := ?_) #[true, true, true, true, true, true, true, true, true, true, true, true, false, false, false, false, false, false, false, false, false, false, false, false, false] rfl rfl (any_of HT_.out (by kernel_rfl)) (fun _ _ _ h => h) (Or.inl ⟨by rfl, ?_⟩) ?_ ?_
                                                                                          rotate_left
                                                                                          · intro w'
                                                                                            go_simp
                                                                                            with_reducible rfl
                                                                                          rotate_left
                                                                                          · simp only [Act.put, List.setIfInBounds_toArray, List.set_cons_zero, List.set_cons_succ, i64_w, i32_w]
                                                                                            rfl
                                                                                          refine pure_ (i := 12) (N := some 76) (v := ?_) (a' := ?_) #[true, true, true, true, true, true, true, true, true, true, true, true, true, false, false, false, false, false, false, false, false, false, false, false, false] rfl rfl (any_of HT_.out (by kernel_rfl)) (fun _ _ _ h => h) (Or.inl ⟨by rfl, ?_⟩) ?_ ?_
                                                                                          rotate_left
                                                                                          · intro w'
                                                                                            go_simp
                                                                                            with_reducible rfl
                                                                                          rotate_left
                                                                                          · simp only [Act.put, List.setIfInBounds_toArray, List.set_cons_zero, List.set_cons_succ, i64_w, i32_w]
                                                                                            rfl
                                                                                          refine pure_ (i := 13) (N := some 77) (v := ?_) (a' := ?_) #[true, true, true, true, true, true, true, true, true, true, true, true, true, true, false, false, false, false, false, false, false, false, false, false, false] rfl rfl (any_of HT_.out (by kernel_rfl)) (fun _ _ _ h => h) (Or.inl ⟨by rfl, ?_⟩) ?_ ?_
                                                                                          rotate_left
                                                                                          · intro w'
                                                                                            go_simp
                                                                                            with_reducible rfl
                                                                                          rotate_left
                                                                                          · simp only [Act.put, List.setIfInBounds_toArray, List.set_cons_zero, List.set_cons_succ, i64_w, i32_w]
                                                                                            rfl
                                                                                          refine pure_ (i := 14) (N := some 78) (v := ?_) (a' := ?_) #[true, true, true, true, true, true, true, true, true, true, true, true, true, true, true, false, false, false, false, false, false, false, false, false, false] rfl rfl (any_of HT_.out (by kernel_rfl)) (fun _ _ _ h => h) (Or.inl ⟨by rfl, ?_⟩) ?_ ?_
                                                                                          rotate_left
                                                                                          · intro w'
                                                                                            go_simp
                                                                                            with_reducible rfl
                                                                                          rotate_left
                                                                                          · simp only [Act.put, List.setIfInBounds_toArray, List.set_cons_zero, List.set_cons_succ, i64_w, i32_w]
                                                                                            rfl
                                                                                          refine pure_ (i := 15) (N := some 79) (v := ?_) (a' := ?_) #[true, true, true, true, true, true, true, true, true, true, true, true, true, true, true, true, false, false, false, false, false, false, false, false, false] rfl rfl (any_of HT_.out (by kernel_rfl)) (fun _ _ _ h => h) (Or.inl ⟨by rfl, ?_⟩) ?_ ?_
                                                                                          rotate_left
                                                                                          · intro w'
                                                                                            go_simp
                                                                                            with_reducible rfl
                                                                                          rotate_left
                                                                                          · simp only [Act.put, List.setIfInBounds_toArray, List.set_cons_zero, List.set_cons_succ, i64_w, i32_w]
                                                                                            rfl
                                                                                          refine pure_ (i := 16) (N := some 80) (v := ?_) (a' := ?_) #[true, true, true, true, true, true, true, true, true, true, true, true, true, true, true, true, true, false, false, false, false, false, false, false, false] rfl rfl (any_of HT_.out (by kernel_rfl)) (fun _ _ _ h => h) (Or.inl ⟨by rfl, ?_⟩) ?_ ?_
                                                                                          rotate_left
                                                                                          · intro w'
                                                                                            go_simp
                                                                                            with_reducible rfl
                                                                                          rotate_left
                                                                                          · simp only [Act.put, List.setIfInBounds_toArray, List.set_cons_zero, List.set_cons_succ, i64_w, i32_w]
                                                                                            rfl
                                                                                          refine pure_ (i := 17) (N := some 81) (v := ?_) (a' := ?_) #[true, true, true, true, true, true, true, true, true, true, true, true, true, true, true, true, true, true, false, false, false, false, false, false, false] rfl rfl (any_of HT_.out (by kernel_rfl)) (fun _ _ _ h => h) (Or.inl ⟨by rfl, ?_⟩) ?_ ?_
                                                                                          rotate_left
                                                                                          · intro w'
                                                                                            go_simp
                                                                                            with_reducible rfl
                                                                                          rotate_left
                                                                                          · simp only [Act.put, List.setIfInBounds_toArray, List.set_cons_zero, List.set_cons_succ, i64_w, i32_w]
                                                                                            rfl
                                                                                          refine pure_ (i := 18) (N := some 82) (v := ?_) (a' := ?_) #[true, true, true, true, true, true, true, true, true, true, true, true, true, true, true, true, true, true, true, false, false, false, false, false, false] rfl rfl (any_of HT_.out (by kernel_rfl)) (fun _ _ _ h => h) (Or.inl ⟨by rfl, ?_⟩) ?_ ?_
                                                                                          rotate_left
                                                                                          · intro w'
                                                                                            go_simp
                                                                                            with_reducible rfl
                                                                                          rotate_left
                                                                                          · simp only [Act.put, List.setIfInBounds_toArray, List.set_cons_zero, List.set_cons_succ, i64_w, i32_w]
                                                                                            rfl
                                                                                          refine one_ (i := 19) (N := some 83) #[true, true, true, true, true, true, true, true, true, true, true, true, true, true, true, true, true, true, true, true, false, false, false, false, false] rfl rfl (one_of HT_.out (by kernel_rfl)) (by decide) (fun K hK => ?_)
                                                                                          refine goes_ Tryd.func10 (by kernel_rfl) rfl #[.string (((((((((x6_2 ++ (⟨#[44, 32]⟩ : ByteArray)) ++ (t340.extract 5 7)) ++ (⟨#[45]⟩ : ByteArray)) ++ (t340.extract 8 11)) ++ (⟨#[45]⟩ : ByteArray)) ++ (t340.extract 14 16)) ++ (⟨#[32]⟩ : ByteArray)) ++ (t340.extract 17 25)) ++ (⟨#[32, 71, 77, 84]⟩ : ByteArray)), .int .i64 a0] (by rfl) rfl rfl (by (try simp only [List.map_toArray, List.map_cons, List.map_nil]); first | done | rfl | (simp only [List.length_drop, List.length_take]; rfl)) ?_
                                                                                          with_reducible refine (date_Parse.calls k2 (((((((((x6_2 ++ (⟨#[44, 32]⟩ : ByteArray)) ++ (t340.extract 5 7)) ++ (⟨#[45]⟩ : ByteArray)) ++ (t340.extract 8 11)) ++ (⟨#[45]⟩ : ByteArray)) ++ (t340.extract 14 16)) ++ (⟨#[32]⟩ : ByteArray)) ++ (t340.extract 17 25)) ++ (⟨#[32, 71, 77, 84]⟩ : ByteArray)) a0 t348 t349 _ A51.out).mono ?_
                                                                                          rintro e w77 ⟨rfl, hb⟩
                                                                                          refine ⟨_, rfl, ?_⟩
                                                                                          have n0_ := Aside0.mk (Kd.R_below (by (with_reducible repeat (first | apply Kd.R_alloc | apply Kd.R_drewN | apply Kd.R_drew)); exact HO_5.out) hb)
                                                                                          have n1_ := Aside0.mk (below_step (by repeat (first | (with_reducible first | exact HB.out | apply below_alloc | apply pw_below_drewN | apply below_drew1) | exact HB.out)) hb)
                                                                                          clear HO_5
                                                                                          clear HB
                                                                                          have HO_5 := n0_
                                                                                          have HB := n1_
                                                                                          clear n0_ n1_
                                                                                          (try clear hb)
                                                                                          (try clear hb2)
                                                                                          (try clear hk)
                                                                                          (try clear hi)
                                                                                          refine hK.out _ _ trivial (fun hHeld => ?_)
                                                                                          clear hK K
                                                                                          refine norm_ (a' := ?_) ?_ ?_
                                                                                          rotate_left
                                                                                          · show Act.put _ (some 83) _ = _
                                                                                            simp only [Act.put, List.setIfInBounds_toArray, List.set_cons_zero, List.set_cons_succ, i64_w, i32_w]
                                                                                            rfl
                                                                                          refine pure_ (i := 20) (N := some 63) (v := ?_) (a' := ?_) #[true, true, true, true, true, true, true, true, true, true, true, true, true, true, true, true, true, true, true, true, true, false, false, false, false] rfl rfl (any_of HT_.out (by kernel_rfl)) (fun _ _ _ h => h) (Or.inl ⟨by rfl, ?_⟩) ?_ ?_
                                                                                          rotate_left
                                                                                          · intro w'
                                                                                            go_simp
                                                                                            with_reducible rfl
                                                                                          rotate_left
                                                                                          · simp only [Act.put, List.setIfInBounds_toArray, List.set_cons_zero, List.set_cons_succ, i64_w, i32_w]
                                                                                            rfl
                                                                                          refine pure_ (i := 21) (N := some 84) (v := ?_) (a' := ?_) #[true, true, true, true, true, true, true, true, true, true, true, true, true, true, true, true, true, true, true, true, true, true, false, false, false] rfl rfl (any_of HT_.out (by kernel_rfl)) (fun _ _ _ h => h) (Or.inl ⟨by rfl, ?_⟩) ?_ ?_
                                                                                          rotate_left
                                                                                          · intro w'
                                                                                            go_simp
                                                                                            with_reducible rfl
                                                                                          rotate_left
                                                                                          · simp only [Act.put, List.setIfInBounds_toArray, List.set_cons_zero, List.set_cons_succ, i64_w, i32_w]
                                                                                            rfl
                                                                                          refine pure_ (i := 22) (N := some 85) (v := ?_) (a' := ?_) #[true, true, true, true, true, true, true, true, true, true, true, true, true, true, true, true, true, true, true, true, true, true, true, false, false] rfl rfl (any_of HT_.out (by kernel_rfl)) (fun _ _ _ h => h) (Or.inl ⟨by rfl, ?_⟩) ?_ ?_
                                                                                          rotate_left
                                                                                          · intro w'
                                                                                            go_simp
                                                                                            with_reducible rfl
                                                                                          rotate_left
                                                                                          · simp only [Act.put, List.setIfInBounds_toArray, List.set_cons_zero, List.set_cons_succ, i64_w, i32_w]
                                                                                            rfl
                                                                                          refine pure_ (i := 23) (N := some 9) (v := ?_) (a' := ?_) #[true, true, true, true, true, true, true, true, true, true, true, true, true, true, true, true, true, true, true, true, true, true, true, true, false] rfl rfl (any_of HT_.out (by kernel_rfl)) (fun _ _ _ h => h) (Or.inl ⟨by rfl, ?_⟩) ?_ ?_
                                                                                          rotate_left
                                                                                          · intro w'
                                                                                            go_simp
                                                                                            with_reducible rfl
                                                                                          rotate_left
                                                                                          · simp only [Act.put, List.setIfInBounds_toArray, List.set_cons_zero, List.set_cons_succ, i64_w, i32_w]
                                                                                            rfl
                                                                                          refine pure_ (i := 24) (N := some 10) (v := ?_) (a' := ?_) #[true, true, true, true, true, true, true, true, true, true, true, true, true, true, true, true, true, true, true, true, true, true, true, true, true] rfl rfl (any_of HT_.out (by kernel_rfl)) (fun _ _ _ h => h) (Or.inl ⟨by rfl, ?_⟩) ?_ ?_
                                                                                          rotate_left
                                                                                          · intro w'
                                                                                            go_simp
                                                                                            with_reducible rfl
                                                                                          rotate_left
                                                                                          · simp only [Act.put, List.setIfInBounds_toArray, List.set_cons_zero, List.set_cons_succ, i64_w, i32_w]
                                                                                            rfl
                                                                                          refine done_ (done_of HT_.out (by kernel_rfl)) ?_
                                                                                          try go_wp2
                                                                                          have n0_ := Aside0.mk (Kd.R_drew HO_5.out)
                                                                                          have n1_ := Aside0.mk (below_drew1 HB.out)
                                                                                          clear HO_5
                                                                                          clear HB
                                                                                          have HO_5 := n0_
                                                                                          have HB := n1_
                                                                                          clear n0_ n1_
                                                                                          refine start_ (n := 24) (S := fun w' => True) (ds := []) #[false, false, false, false, false, false, false, false, false, false, false, false, false, false, false, false, false, false, false, false, false, false, false, false] (by kernel_rfl) rfl rfl trivial (fun hHeld => ?_); refine with_tabW sprlaw15_DateForms.tab17 sprlaw15_DateForms.bits17 (fun HT_ HW_ => ?_)
                                                                                          generalize w77.drew = w78 at HO_5 HB hHeld ⊢
                                                                                          refine pure_ (i := 0) (N := some 87) (v := ?_) (a' := ?_) #[true, false, false, false, false, false, false, false, false, false, false, false, false, false, false, false, false, false, false, false, false, false, false, false] rfl rfl (any_of HT_.out (by kernel_rfl)) (fun _ _ _ h => h) (Or.inl ⟨by rfl, ?_⟩) ?_ ?_
                                                                                          rotate_left
                                                                                          · intro w'
                                                                                            go_simp
                                                                                            with_reducible rfl
                                                                                          rotate_left
                                                                                          · simp only [Act.put, List.setIfInBounds_toArray, List.set_cons_zero, List.set_cons_succ, i64_w, i32_w]
                                                                                            rfl
                                                                                          refine pure_ (i := 1) (N := some 88) (v := ?_) (a' := ?_) #[true, true, false, false, false, false, false, false, false, false, false, false, false, false, false, false, false, false, false, false, false, false, false, false] rfl rfl (any_of HT_.out (by kernel_rfl)) (fun _ _ _ h => h) (Or.inl ⟨by rfl, ?_⟩) ?_ ?_
                                                                                          rotate_left
                                                                                          · intro w'
                                                                                            go_simp
                                                                                            with_reducible rfl
                                                                                          rotate_left
                                                                                          · simp only [Act.put, List.setIfInBounds_toArray, List.set_cons_zero, List.set_cons_succ, i64_w, i32_w]
                                                                                            rfl
                                                                                          refine pure_ (i := 2) (N := some 89) (v := ?_) (a' := ?_) #[true, true, true, false, false, false, false, false, false, false, false, false, false, false, false, false, false, false, false, false, false, false, false, false] rfl rfl (any_of HT_.out (by kernel_rfl)) (fun _ _ _ h => h) (Or.inl ⟨by rfl, ?_⟩) ?_ ?_
                                                                                          rotate_left
                                                                                          · intro w'
                                                                                            go_simp
                                                                                            with_reducible rfl
                                                                                          rotate_left
                                                                                          · simp only [Act.put, List.setIfInBounds_toArray, List.set_cons_zero, List.set_cons_succ, i64_w, i32_w]
                                                                                            rfl
                                                                                          refine pure_ (i := 3) (N := some 90) (v := ?_) (a' := ?_) #[true, true, true, true, false, false, false, false, false, false, false, false, false, false, false, false, false, false, false, false, false, false, false, false] rfl rfl (any_of HT_.out (by kernel_rfl)) (fun _ _ _ h => h) (Or.inl ⟨by rfl, ?_⟩) ?_ ?_
                                                                                          rotate_left
                                                                                          · intro w'
                                                                                            go_simp
                                                                                            with_reducible rfl
                                                                                          rotate_left
                                                                                          · simp only [Act.put, List.setIfInBounds_toArray, List.set_cons_zero, List.set_cons_succ, i64_w, i32_w]
                                                                                            rfl
                                                                                          refine pure_ (i := 4) (N := some 91) (v := ?_) (a' := ?_) #[true, true, true, true, true, false, false, false, false, false, false, false, false, false, false, false, false, false, false, false, false, false, false, false] rfl rfl (any_of HT_.out (by kernel_rfl)) (fun _ _ _ h => h) (Or.inl ⟨by rfl, ?_⟩) ?_ ?_
                                                                                          rotate_left
                                                                                          · intro w'
                                                                                            go_simp
                                                                                            with_reducible rfl
                                                                                          rotate_left
                                                                                          · simp only [Act.put, List.setIfInBounds_toArray, List.set_cons_zero, List.set_cons_succ, i64_w, i32_w]
                                                                                            rfl
                                                                                          refine pure_ (i := 5) (N := some 92) (v := ?_) (a' := ?_) #[true, true, true, true, true, true, false, false, false, false, false, false, false, false, false, false, false, false, false, false, false, false, false, false] rfl rfl (any_of HT_.out (by kernel_rfl)) (fun _ _ _ h => h) (Or.inl ⟨by rfl, ?_⟩) ?_ ?_
                                                                                          rotate_left
                                                                                          · intro w'
                                                                                            go_simp
                                                                                            with_reducible rfl
                                                                                          rotate_left
                                                                                          · simp only [Act.put, List.setIfInBounds_toArray, List.set_cons_zero, List.set_cons_succ, i64_w, i32_w]
                                                                                            rfl
                                                                                          refine pure_ (i := 6) (N := some 93) (v := ?_) (a' := ?_) #[true, true, true, true, true, true, true, false, false, false, false, false, false, false, false, false, false, false, false, false, false, false, false, false] rfl rfl (any_of HT_.out (by kernel_rfl)) (fun _ _ _ h => h) (Or.inl ⟨by rfl, ?_⟩) ?_ ?_
                                                                                          rotate_left
                                                                                          · intro w'
                                                                                            go_simp
                                                                                            with_reducible rfl
                                                                                          rotate_left
                                                                                          · simp only [Act.put, List.setIfInBounds_toArray, List.set_cons_zero, List.set_cons_succ, i64_w, i32_w]
                                                                                            rfl
                                                                                          refine pure_ (i := 7) (N := some 94) (v := ?_) (a' := ?_) #[true, true, true, true, true, true, true, true, false, false, false, false, false, false, false, false, false, false, false, false, false, false, false, false] rfl rfl (any_of HT_.out (by kernel_rfl)) (fun _ _ _ h => h) (Or.inl ⟨by rfl, ?_⟩) ?_ ?_
                                                                                          rotate_left
                                                                                          · intro w'
                                                                                            go_simp
                                                                                            with_reducible rfl
                                                                                          rotate_left
                                                                                          · simp only [Act.put, List.setIfInBounds_toArray, List.set_cons_zero, List.set_cons_succ, i64_w, i32_w]
                                                                                            rfl
                                                                                          refine pure_ (i := 8) (N := some 95) (v := ?_) (a' := ?_) #[true, true, true, true, true, true, true, true, true, false, false, false, false, false, false, false, false, false, false, false, false, false, false, false] rfl rfl (any_of HT_.out (by kernel_rfl)) (fun _ _ _ h => h) (Or.inl ⟨by rfl, ?_⟩) ?_ ?_
                                                                                          rotate_left
                                                                                          · intro w'
                                                                                            go_simp
                                                                                            with_reducible rfl
                                                                                          rotate_left
                                                                                          · simp only [Act.put, List.setIfInBounds_toArray, List.set_cons_zero, List.set_cons_succ, i64_w, i32_w]
                                                                                            rfl
                                                                                          refine pure_ (i := 9) (N := some 96) (v := ?_) (a' := ?_) #[true, true, true, true, true, true, true, true, true, true, false, false, false, false, false, false, false, false, false, false, false, false, false, false] rfl rfl (any_of HT_.out (by kernel_rfl)) (fun _ _ _ h => h) (Or.inl ⟨by rfl, ?_⟩) ?_ ?_
                                                                                          rotate_left
                                                                                          · intro w'
                                                                                            go_simp
                                                                                            with_reducible rfl
                                                                                          rotate_left
                                                                                          · simp only [Act.put, List.setIfInBounds_toArray, List.set_cons_zero, List.set_cons_succ, i64_w, i32_w]
                                                                                            rfl
                                                                                          refine pure_ (i := 10) (N := some 97) (v := ?_) (a' := ?_) #[true, true, true, true, true, true, true, true, true, true, true, false, false, false, false, false, false, false, false, false, false, false, false, false] rfl rfl (any_of HT_.out (by kernel_rfl)) (fun _ _ _ h => h) (Or.inl ⟨by rfl, ?_⟩) ?_ ?_
                                                                                          rotate_left
                                                                                          · intro w'
                                                                                            go_simp
                                                                                            with_reducible rfl
                                                                                          rotate_left
                                                                                          · simp only [Act.put, List.setIfInBounds_toArray, List.set_cons_zero, List.set_cons_succ, i64_w, i32_w]
                                                                                            rfl
                                                                                          refine pure_ (i := 11) (N := some 98) (v := ?_) (a' := ?_) #[true, true, true, true, true, true, true, true, true, true, true, true, false, false, false, false, false, false, false, false, false, false, false, false] rfl rfl (any_of HT_.out (by kernel_rfl)) (fun _ _ _ h => h) (Or.inl ⟨by rfl, ?_⟩) ?_ ?_
                                                                                          rotate_left
                                                                                          · intro w'
                                                                                            go_simp
                                                                                            with_reducible rfl
                                                                                          rotate_left
                                                                                          · simp only [Act.put, List.setIfInBounds_toArray, List.set_cons_zero, List.set_cons_succ, i64_w, i32_w]
                                                                                            rfl
                                                                                          refine pure_ (i := 12) (N := some 99) (v := ?_) (a' := ?_) #[true, true, true, true, true, true, true, true, true, true, true, true, true, false, false, false, false, false, false, false, false, false, false, false] rfl rfl (any_of HT_.out (by kernel_rfl)) (fun _ _ _ h => h) (Or.inl ⟨by rfl, ?_⟩) ?_ ?_
                                                                                          rotate_left
                                                                                          · intro w'
                                                                                            go_simp
                                                                                            with_reducible rfl
                                                                                          rotate_left
                                                                                          · simp only [Act.put, List.setIfInBounds_toArray, List.set_cons_zero, List.set_cons_succ, i64_w, i32_w]
                                                                                            rfl
                                                                                          refine pure_ (i := 13) (N := some 100) (v := ?_) (a' := ?_) #[true, true, true, true, true, true, true, true, true, true, true, true, true, true, false, false, false, false, false, false, false, false, false, false] rfl rfl (any_of HT_.out (by kernel_rfl)) (fun _ _ _ h => h) (Or.inl ⟨by rfl, ?_⟩) ?_ ?_
                                                                                          rotate_left
                                                                                          · intro w'
                                                                                            go_simp
                                                                                            with_reducible rfl
                                                                                          rotate_left
                                                                                          · simp only [Act.put, List.setIfInBounds_toArray, List.set_cons_zero, List.set_cons_succ, i64_w, i32_w]
                                                                                            rfl
                                                                                          refine pure_ (i := 14) (N := some 101) (v := ?_) (a' := ?_) #[true, true, true, true, true, true, true, true, true, true, true, true, true, true, true, false, false, false, false, false, false, false, false, false] rfl rfl (any_of HT_.out (by kernel_rfl)) (fun _ _ _ h => h) (Or.inl ⟨by rfl, ?_⟩) ?_ ?_
                                                                                          rotate_left
                                                                                          · intro w'
                                                                                            go_simp
                                                                                            with_reducible rfl
                                                                                          rotate_left
                                                                                          · simp only [Act.put, List.setIfInBounds_toArray, List.set_cons_zero, List.set_cons_succ, i64_w, i32_w]
                                                                                            rfl
                                                                                          refine pure_ (i := 15) (N := some 102) (v := ?_) (a' := ?_) #[true, true, true, true, true, true, true, true, true, true, true, true, true, true, true, true, false, false, false, false, false, false, false, false] rfl rfl (any_of HT_.out (by kernel_rfl)) (fun _ _ _ h => h) (Or.inl ⟨by rfl, ?_⟩) ?_ ?_
                                                                                          rotate_left
                                                                                          · intro w'
                                                                                            go_simp
                                                                                            with_reducible rfl
                                                                                          rotate_left
                                                                                          · simp only [Act.put, List.setIfInBounds_toArray, List.set_cons_zero, List.set_cons_succ, i64_w, i32_w]
                                                                                            rfl
                                                                                          refine pure_ (i := 16) (N := some 103) (v := ?_) (a' := ?_) #[true, true, true, true, true, true, true, true, true, true, true, true, true, true, true, true, true, false, false, false, false, false, false, false] rfl rfl (any_of HT_.out (by kernel_rfl)) (fun _ _ _ h => h) (Or.inl ⟨by rfl, ?_⟩) ?_ ?_
                                                                                          rotate_left
                                                                                          · intro w'
                                                                                            go_simp
                                                                                            with_reducible rfl
                                                                                          rotate_left
                                                                                          · simp only [Act.put, List.setIfInBounds_toArray, List.set_cons_zero, List.set_cons_succ, i64_w, i32_w]
                                                                                            rfl
                                                                                          refine pure_ (i := 17) (N := some 104) (v := ?_) (a' := ?_) #[true, true, true, true, true, true, true, true, true, true, true, true, true, true, true, true, true, true, false, false, false, false, false, false] rfl rfl (any_of HT_.out (by kernel_rfl)) (fun _ _ _ h => h) (Or.inl ⟨by rfl, ?_⟩) ?_ ?_
                                                                                          rotate_left
                                                                                          · intro w'
                                                                                            go_simp
                                                                                            with_reducible rfl
                                                                                          rotate_left
                                                                                          · simp only [Act.put, List.setIfInBounds_toArray, List.set_cons_zero, List.set_cons_succ, i64_w, i32_w]
                                                                                            rfl
                                                                                          refine one_ (i := 18) (N := some 105) #[true, true, true, true, true, true, true, true, true, true, true, true, true, true, true, true, true, true, true, false, false, false, false, false] rfl rfl (one_of HT_.out (by kernel_rfl)) (by decide) (fun K hK => ?_)
                                                                                          refine goes_ Tryd.func10 (by kernel_rfl) rfl #[.string (((((((((t340.extract 0 3) ++ (⟨#[32]⟩ : ByteArray)) ++ (t340.extract 8 11)) ++ (⟨#[32]⟩ : ByteArray)) ++ ((⟨#[32]⟩ : ByteArray) ++ ((t340.extract 5 7).extract 1 (t340.extract 5 7).size))) ++ (⟨#[32]⟩ : ByteArray)) ++ (t340.extract 17 25)) ++ (⟨#[32]⟩ : ByteArray)) ++ (t340.extract 12 16)), .int .i64 a0] (by rfl) rfl rfl (by (try simp only [List.map_toArray, List.map_cons, List.map_nil]); first | done | (simp only [ByteArray.size_extract]; rfl) | (simp only [ByteArray.size_extract]; with_reducible rfl) | (simp only [ByteArray.size_extract, Nat.sub_zero]; with_reducible rfl) | fail "x" | (simp only [List.length_drop, List.length_take]; rfl)) ?_
                                                                                          with_reducible refine (date_Parse.calls k2 (((((((((t340.extract 0 3) ++ (⟨#[32]⟩ : ByteArray)) ++ (t340.extract 8 11)) ++ (⟨#[32]⟩ : ByteArray)) ++ ((⟨#[32]⟩ : ByteArray) ++ ((t340.extract 5 7).extract 1 (t340.extract 5 7).size))) ++ (⟨#[32]⟩ : ByteArray)) ++ (t340.extract 17 25)) ++ (⟨#[32]⟩ : ByteArray)) ++ (t340.extract 12 16)) a0 t350 t351 _ A68.out).mono ?_
                                                                                          rintro e w79 ⟨rfl, hb⟩
                                                                                          refine ⟨_, rfl, ?_⟩
                                                                                          have n0_ := Aside0.mk (Kd.R_below (by (with_reducible repeat (first | apply Kd.R_alloc | apply Kd.R_drewN | apply Kd.R_drew)); exact HO_5.out) hb)
                                                                                          have n1_ := Aside0.mk (below_step (by repeat (first | (with_reducible first | exact HB.out | apply below_alloc | apply pw_below_drewN | apply below_drew1) | exact HB.out)) hb)
                                                                                          clear HO_5
                                                                                          clear HB
                                                                                          have HO_5 := n0_
                                                                                          have HB := n1_
                                                                                          clear n0_ n1_
                                                                                          (try clear hb)
                                                                                          (try clear hb2)
                                                                                          (try clear hk)
                                                                                          (try clear hi)
                                                                                          refine hK.out _ _ trivial (fun hHeld => ?_)
                                                                                          clear hK K
                                                                                          refine norm_ (a' := ?_) ?_ ?_
                                                                                          rotate_left
                                                                                          · show Act.put _ (some 105) _ = _
                                                                                            simp only [Act.put, List.setIfInBounds_toArray, List.set_cons_zero, List.set_cons_succ, i64_w, i32_w]
                                                                                            rfl
                                                                                          refine pure_ (i := 19) (N := some 86) (v := ?_) (a' := ?_) #[true, true, true, true, true, true, true, true, true, true, true, true, true, true, true, true, true, true, true, true, false, false, false, false] rfl rfl (any_of HT_.out (by kernel_rfl)) (fun _ _ _ h => h) (Or.inl ⟨by rfl, ?_⟩) ?_ ?_
                                                                                          rotate_left
                                                                                          · intro w'
                                                                                            go_simp
                                                                                            with_reducible rfl
                                                                                          rotate_left
                                                                                          · simp only [Act.put, List.setIfInBounds_toArray, List.set_cons_zero, List.set_cons_succ, i64_w, i32_w]
                                                                                            rfl
                                                                                          refine pure_ (i := 20) (N := some 106) (v := ?_) (a' := ?_) #[true, true, true, true, true, true, true, true, true, true, true, true, true, true, true, true, true, true, true, true, true, false, false, false] rfl rfl (any_of HT_.out (by kernel_rfl)) (fun _ _ _ h => h) (Or.inl ⟨by rfl, ?_⟩) ?_ ?_
                                                                                          rotate_left
                                                                                          · intro w'
                                                                                            go_simp
                                                                                            with_reducible rfl
                                                                                          rotate_left
                                                                                          · simp only [Act.put, List.setIfInBounds_toArray, List.set_cons_zero, List.set_cons_succ, i64_w, i32_w]
                                                                                            rfl
                                                                                          refine pure_ (i := 21) (N := some 107) (v := ?_) (a' := ?_) #[true, true, true, true, true, true, true, true, true, true, true, true, true, true, true, true, true, true, true, true, true, true, false, false] rfl rfl (any_of HT_.out (by kernel_rfl)) (fun _ _ _ h => h) (Or.inl ⟨by rfl, ?_⟩) ?_ ?_
                                                                                          rotate_left
                                                                                          · intro w'
                                                                                            go_simp
                                                                                            with_reducible rfl
                                                                                          rotate_left
                                                                                          · simp only [Act.put, List.setIfInBounds_toArray, List.set_cons_zero, List.set_cons_succ, i64_w, i32_w]
                                                                                            rfl
                                                                                          refine pure_ (i := 22) (N := some 11) (v := ?_) (a' := ?_) #[true, true, true, true, true, true, true, true, true, true, true, true, true, true, true, true, true, true, true, true, true, true, true, false] rfl rfl (any_of HT_.out (by kernel_rfl)) (fun _ _ _ h => h) (Or.inl ⟨by rfl, ?_⟩) ?_ ?_
                                                                                          rotate_left
                                                                                          · intro w'
                                                                                            go_simp
                                                                                            with_reducible rfl
                                                                                          rotate_left
                                                                                          · simp only [Act.put, List.setIfInBounds_toArray, List.set_cons_zero, List.set_cons_succ, i64_w, i32_w]
                                                                                            rfl
                                                                                          refine pure_ (i := 23) (N := some 12) (v := ?_) (a' := ?_) #[true, true, true, true, true, true, true, true, true, true, true, true, true, true, true, true, true, true, true, true, true, true, true, true] rfl rfl (any_of HT_.out (by kernel_rfl)) (fun _ _ _ h => h) (Or.inl ⟨by rfl, ?_⟩) ?_ ?_
                                                                                          rotate_left
                                                                                          · intro w'
                                                                                            go_simp
                                                                                            with_reducible rfl
                                                                                          rotate_left
                                                                                          · simp only [Act.put, List.setIfInBounds_toArray, List.set_cons_zero, List.set_cons_succ, i64_w, i32_w]
                                                                                            rfl
                                                                                          refine done_ (done_of HT_.out (by kernel_rfl)) ?_
                                                                                          try go_wp2_with (first | ((with_reducible refine gate_callee (f := 9) rfl ?_); refine goesL_ (some 108) rfl rfl Tryd.func9 (by kernel_rfl) rfl #[] rfl (by (try simp only [List.map_toArray, List.map_cons, List.map_nil]); first | done | rfl | (simp only [List.length_drop, List.length_take]; rfl)) ?_; (with_reducible refine (sprlaw15_first.calls k2  true _ A69.out).mono ?_); rintro e w80 ⟨rfl, hb⟩; refine ⟨_, rfl, ?_⟩; have n0_ := Aside0.mk (Kd.R_below (by (with_reducible repeat (first | apply Kd.R_alloc | apply Kd.R_drewN | apply Kd.R_drew)); exact HO_5.out) hb); have n1_ := Aside0.mk (below_step (by repeat (first | (with_reducible first | exact HB.out | apply below_alloc | apply pw_below_drewN | apply below_drew1) | exact HB.out)) hb); clear HO_5; clear HB; have HO_5 := n0_; have HB := n1_; clear n0_ n1_; (try clear hb); (try clear hb2); (try clear hk); (try clear hi)))
                                                                                          go_ret
                                                                                          exact ⟨by first | rfl | (simp [errW_none, errW_some] <;> rfl) | (simp [*, errW_none, errW_some] <;> rfl), by repeat (first | (with_reducible first | exact HB.out | apply below_alloc | apply pw_below_drewN | apply below_drew1) | exact HB.out)⟩
                                                                                        · rw [if_neg c74] at H
                                                                                          have c74b0 : (t348 == a0) = false := beq_eq_false_iff_ne.mpr c74
                                                                                          have c74b1 : (t348 != a0) = true := bne_iff_ne.mpr c74
                                                                                          exact absurd ((Option.some.inj H).trans hT.out) (by decide)
                                                                                      · rw [if_neg c73] at H
                                                                                        have c73b0 : (t351 == 0) = false := beq_eq_false_iff_ne.mpr c73
                                                                                        have c73b1 : (t351 != 0) = true := bne_iff_ne.mpr c73
                                                                                        exact absurd ((Option.some.inj H).trans hT.out) (by decide)
                                                                                    · rw [if_neg c72] at H
                                                                                      have c72b0 : (t349 == 0) = false := beq_eq_false_iff_ne.mpr c72
                                                                                      have c72b1 : (t349 != 0) = true := bne_iff_ne.mpr c72
                                                                                      exact absurd ((Option.some.inj H).trans hT.out) (by decide)
                                                                                · replace c70 := Bool.eq_false_iff.mpr c70
                                                                                  subst c70
                                                                                  have H1 : (some false) = some r := by rw [if_neg (show ¬ (false = true) by decide)] at H; exact H
                                                                                  clear H
                                                                                  have H := H1
                                                                                  clear H1
                                                                                  exact absurd ((Option.some.inj H).trans hT.out) (by decide)
                                                                              · rw [if_neg c67] at H
                                                                                exact absurd H (by simp)
                                                                            · rw [if_neg c65] at H
                                                                              exact absurd H (by simp)
                                                                          · rw [if_neg c64] at H
                                                                            exact absurd H (by simp)
                                                                        · rw [if_neg c63] at H
                                                                          exact absurd H (by simp)
                                                                      · rw [if_neg c60] at H
                                                                        exact absurd H (by simp)
                                                                    · rw [if_neg c59] at H
                                                                      exact absurd H (by simp)
                                                                  · rw [if_neg c58] at H
                                                                    exact absurd H (by simp)
                                                                · rw [if_neg c57] at H
                                                                  exact absurd H (by simp)
                                                              · rw [if_neg c54] at H
                                                                exact absurd H (by simp)
                                                            · rw [if_neg c53] at H
                                                              exact absurd H (by simp)
                                                          · rw [if_neg c52] at H
                                                            exact absurd H (by simp)
                                                        · rw [if_neg c50] at H
                                                          exact absurd H (by simp)
                                                      · rw [if_neg c49] at H
                                                        exact absurd H (by simp)
                                                    · rw [if_neg c48] at H
                                                      exact absurd H (by simp)
                                                  · rw [if_neg c47] at H
                                                    exact absurd H (by simp)
                                                · rw [if_neg c46] at H
                                                  exact absurd H (by simp)
                                              · rw [if_neg c45] at H
                                                exact absurd H (by simp)
                                            · rw [if_neg c44] at H
                                              exact absurd H (by simp)
                                          · rw [if_neg c43] at H
                                            exact absurd H (by simp)
                                        · rw [if_neg c42] at H
                                          exact absurd H (by simp)
                                      · rw [if_neg c41] at H
                                        exact absurd H (by simp)
                                    · rw [if_neg c40] at H
                                      exact absurd H (by simp)
                                  · rw [if_neg c39] at H
                                    exact absurd H (by simp)
                                · rw [if_neg c38] at H
                                  exact absurd H (by simp)
                              · rw [if_neg c37] at H
                                exact absurd H (by simp)
                            · rw [if_neg c34] at H
                              exact absurd H (by simp)
                          · rw [if_neg c33] at H
                            exact absurd H (by simp)
                        · rw [if_neg c32] at H
                          exact absurd H (by simp)
                      · rw [if_neg c31] at H
                        have c31b0 : ((bt (t340.extract 5 7) 0) == 48) = false := beq_eq_false_iff_ne.mpr c31
                        have c31b1 : ((bt (t340.extract 5 7) 0) != 48) = true := bne_iff_ne.mpr c31
                        by_cases c81 : x6_2.size + 2 ≤ 9223372036854775807
                        · rw [if_pos c81] at H
                          have c81b0 := eq_true c81
                          have c81b1 : decide (x6_2.size + 2 ≤ 9223372036854775807) = true := decide_eq_true c81
                          try have c81b2 : (9223372036854775807 < x6_2.size + 2) = False := eq_false (Nat.not_lt.2 c81)
                          have c82b0 := eq_true (of_decide_eq_true (by first | (with_reducible assumption) | assumption) : 5 ≤ 7)
                          have c83b0 := eq_true (of_decide_eq_true (by first | (with_reducible assumption) | assumption) : 7 ≤ (t340.size : Int))
                          by_cases c84 : (x6_2 ++ (⟨#[44, 32]⟩ : ByteArray)).size + (t340.extract 5 7).size ≤ 9223372036854775807
                          · rw [if_pos c84] at H
                            have c84b0 := eq_true c84
                            have c84b1 : decide ((x6_2 ++ (⟨#[44, 32]⟩ : ByteArray)).size + (t340.extract 5 7).size ≤ 9223372036854775807) = true := decide_eq_true c84
                            try have c84b2 : (9223372036854775807 < (x6_2 ++ (⟨#[44, 32]⟩ : ByteArray)).size + (t340.extract 5 7).size) = False := eq_false (Nat.not_lt.2 c84)
                            (try (have c84y : (9223372036854775807 < x6_2.size + 2 + (min 7 t340.size - 5)) = False := eq_false (by have zz := c84; simp only [ByteArray.size_append, ByteArray.size_extract, Nat.sub_zero] at zz; have e0 : (⟨#[44, 32]⟩ : ByteArray).size = 2 := rfl; omega)))
                            (try (have c84s := c84; simp [go_sem] at c84s)); (try (have c84z := eq_false (Nat.not_lt.2 c84s)))
                            by_cases c85 : ((x6_2 ++ (⟨#[44, 32]⟩ : ByteArray)) ++ (t340.extract 5 7)).size + 1 ≤ 9223372036854775807
                            · rw [if_pos c85] at H
                              have c85b0 := eq_true c85
                              have c85b1 : decide (((x6_2 ++ (⟨#[44, 32]⟩ : ByteArray)) ++ (t340.extract 5 7)).size + 1 ≤ 9223372036854775807) = true := decide_eq_true c85
                              try have c85b2 : (9223372036854775807 < ((x6_2 ++ (⟨#[44, 32]⟩ : ByteArray)) ++ (t340.extract 5 7)).size + 1) = False := eq_false (Nat.not_lt.2 c85)
                              (try (have c85y : (9223372036854775807 < x6_2.size + 2 + (min 7 t340.size - 5) + 1) = False := eq_false (by have zz := c85; simp only [ByteArray.size_append, ByteArray.size_extract, Nat.sub_zero] at zz; have e0 : (⟨#[44, 32]⟩ : ByteArray).size = 2 := rfl; omega)))
                              (try (have c85s := c85; simp [go_sem] at c85s)); (try (have c85z := eq_false (Nat.not_lt.2 c85s)))
                              by_cases c86 : 8 ≤ 11
                              · rw [if_pos c86] at H
                                have c86b0 := eq_true c86
                                have c86b1 : decide (8 ≤ 11) = true := decide_eq_true c86
                                clear c86
                                by_cases c87 : 11 ≤ (t340.size : Int)
                                · rw [if_pos c87] at H
                                  have c87b0 := eq_true c87
                                  have c87b1 : decide (11 ≤ (t340.size : Int)) = true := decide_eq_true c87
                                  clear c87
                                  by_cases c88 : (((x6_2 ++ (⟨#[44, 32]⟩ : ByteArray)) ++ (t340.extract 5 7)) ++ (⟨#[45]⟩ : ByteArray)).size + (t340.extract 8 11).size ≤ 9223372036854775807
                                  · rw [if_pos c88] at H
                                    have c88b0 := eq_true c88
                                    have c88b1 : decide ((((x6_2 ++ (⟨#[44, 32]⟩ : ByteArray)) ++ (t340.extract 5 7)) ++ (⟨#[45]⟩ : ByteArray)).size + (t340.extract 8 11).size ≤ 9223372036854775807) = true := decide_eq_true c88
                                    try have c88b2 : (9223372036854775807 < (((x6_2 ++ (⟨#[44, 32]⟩ : ByteArray)) ++ (t340.extract 5 7)) ++ (⟨#[45]⟩ : ByteArray)).size + (t340.extract 8 11).size) = False := eq_false (Nat.not_lt.2 c88)
                                    (try (have c88y : (9223372036854775807 < x6_2.size + 2 + (min 7 t340.size - 5) + 1 + (min 11 t340.size - 8)) = False := eq_false (by have zz := c88; simp only [ByteArray.size_append, ByteArray.size_extract, Nat.sub_zero] at zz; have e0 : (⟨#[44, 32]⟩ : ByteArray).size = 2 := rfl; have e1 : (⟨#[45]⟩ : ByteArray).size = 1 := rfl; omega)))
                                    (try (have c88s := c88; simp [go_sem] at c88s)); (try (have c88z := eq_false (Nat.not_lt.2 c88s)))
                                    by_cases c89 : ((((x6_2 ++ (⟨#[44, 32]⟩ : ByteArray)) ++ (t340.extract 5 7)) ++ (⟨#[45]⟩ : ByteArray)) ++ (t340.extract 8 11)).size + 1 ≤ 9223372036854775807
                                    · rw [if_pos c89] at H
                                      have c89b0 := eq_true c89
                                      have c89b1 : decide (((((x6_2 ++ (⟨#[44, 32]⟩ : ByteArray)) ++ (t340.extract 5 7)) ++ (⟨#[45]⟩ : ByteArray)) ++ (t340.extract 8 11)).size + 1 ≤ 9223372036854775807) = true := decide_eq_true c89
                                      try have c89b2 : (9223372036854775807 < ((((x6_2 ++ (⟨#[44, 32]⟩ : ByteArray)) ++ (t340.extract 5 7)) ++ (⟨#[45]⟩ : ByteArray)) ++ (t340.extract 8 11)).size + 1) = False := eq_false (Nat.not_lt.2 c89)
                                      (try (have c89y : (9223372036854775807 < x6_2.size + 2 + (min 7 t340.size - 5) + 1 + (min 11 t340.size - 8) + 1) = False := eq_false (by have zz := c89; simp only [ByteArray.size_append, ByteArray.size_extract, Nat.sub_zero] at zz; have e0 : (⟨#[44, 32]⟩ : ByteArray).size = 2 := rfl; have e1 : (⟨#[45]⟩ : ByteArray).size = 1 := rfl; omega)))
                                      (try (have c89s := c89; simp [go_sem] at c89s)); (try (have c89z := eq_false (Nat.not_lt.2 c89s)))
                                      by_cases c90 : 14 ≤ 16
                                      · rw [if_pos c90] at H
                                        have c90b0 := eq_true c90
                                        have c90b1 : decide (14 ≤ 16) = true := decide_eq_true c90
                                        clear c90
                                        by_cases c91 : 16 ≤ (t340.size : Int)
                                        · rw [if_pos c91] at H
                                          have c91b0 := eq_true c91
                                          have c91b1 : decide (16 ≤ (t340.size : Int)) = true := decide_eq_true c91
                                          clear c91
                                          by_cases c92 : (((((x6_2 ++ (⟨#[44, 32]⟩ : ByteArray)) ++ (t340.extract 5 7)) ++ (⟨#[45]⟩ : ByteArray)) ++ (t340.extract 8 11)) ++ (⟨#[45]⟩ : ByteArray)).size + (t340.extract 14 16).size ≤ 9223372036854775807
                                          · rw [if_pos c92] at H
                                            have c92b0 := eq_true c92
                                            have c92b1 : decide ((((((x6_2 ++ (⟨#[44, 32]⟩ : ByteArray)) ++ (t340.extract 5 7)) ++ (⟨#[45]⟩ : ByteArray)) ++ (t340.extract 8 11)) ++ (⟨#[45]⟩ : ByteArray)).size + (t340.extract 14 16).size ≤ 9223372036854775807) = true := decide_eq_true c92
                                            try have c92b2 : (9223372036854775807 < (((((x6_2 ++ (⟨#[44, 32]⟩ : ByteArray)) ++ (t340.extract 5 7)) ++ (⟨#[45]⟩ : ByteArray)) ++ (t340.extract 8 11)) ++ (⟨#[45]⟩ : ByteArray)).size + (t340.extract 14 16).size) = False := eq_false (Nat.not_lt.2 c92)
                                            (try (have c92y : (9223372036854775807 < x6_2.size + 2 + (min 7 t340.size - 5) + 1 + (min 11 t340.size - 8) + 1 + (min 16 t340.size - 14)) = False := eq_false (by have zz := c92; simp only [ByteArray.size_append, ByteArray.size_extract, Nat.sub_zero] at zz; have e0 : (⟨#[44, 32]⟩ : ByteArray).size = 2 := rfl; have e1 : (⟨#[45]⟩ : ByteArray).size = 1 := rfl; omega)))
                                            (try (have c92s := c92; simp [go_sem] at c92s)); (try (have c92z := eq_false (Nat.not_lt.2 c92s)))
                                            by_cases c93 : ((((((x6_2 ++ (⟨#[44, 32]⟩ : ByteArray)) ++ (t340.extract 5 7)) ++ (⟨#[45]⟩ : ByteArray)) ++ (t340.extract 8 11)) ++ (⟨#[45]⟩ : ByteArray)) ++ (t340.extract 14 16)).size + 1 ≤ 9223372036854775807
                                            · rw [if_pos c93] at H
                                              have c93b0 := eq_true c93
                                              have c93b1 : decide (((((((x6_2 ++ (⟨#[44, 32]⟩ : ByteArray)) ++ (t340.extract 5 7)) ++ (⟨#[45]⟩ : ByteArray)) ++ (t340.extract 8 11)) ++ (⟨#[45]⟩ : ByteArray)) ++ (t340.extract 14 16)).size + 1 ≤ 9223372036854775807) = true := decide_eq_true c93
                                              try have c93b2 : (9223372036854775807 < ((((((x6_2 ++ (⟨#[44, 32]⟩ : ByteArray)) ++ (t340.extract 5 7)) ++ (⟨#[45]⟩ : ByteArray)) ++ (t340.extract 8 11)) ++ (⟨#[45]⟩ : ByteArray)) ++ (t340.extract 14 16)).size + 1) = False := eq_false (Nat.not_lt.2 c93)
                                              (try (have c93y : (9223372036854775807 < x6_2.size + 2 + (min 7 t340.size - 5) + 1 + (min 11 t340.size - 8) + 1 + (min 16 t340.size - 14) + 1) = False := eq_false (by have zz := c93; simp only [ByteArray.size_append, ByteArray.size_extract, Nat.sub_zero] at zz; have e0 : (⟨#[44, 32]⟩ : ByteArray).size = 2 := rfl; have e1 : (⟨#[45]⟩ : ByteArray).size = 1 := rfl; omega)))
                                              (try (have c93s := c93; simp [go_sem] at c93s)); (try (have c93z := eq_false (Nat.not_lt.2 c93s)))
                                              by_cases c94 : 17 ≤ 25
                                              · rw [if_pos c94] at H
                                                have c94b0 := eq_true c94
                                                have c94b1 : decide (17 ≤ 25) = true := decide_eq_true c94
                                                clear c94
                                                by_cases c95 : 25 ≤ (t340.size : Int)
                                                · rw [if_pos c95] at H
                                                  have c95b0 := eq_true c95
                                                  have c95b1 : decide (25 ≤ (t340.size : Int)) = true := decide_eq_true c95
                                                  clear c95
                                                  by_cases c96 : (((((((x6_2 ++ (⟨#[44, 32]⟩ : ByteArray)) ++ (t340.extract 5 7)) ++ (⟨#[45]⟩ : ByteArray)) ++ (t340.extract 8 11)) ++ (⟨#[45]⟩ : ByteArray)) ++ (t340.extract 14 16)) ++ (⟨#[32]⟩ : ByteArray)).size + (t340.extract 17 25).size ≤ 9223372036854775807
                                                  · rw [if_pos c96] at H
                                                    have c96b0 := eq_true c96
                                                    have c96b1 : decide ((((((((x6_2 ++ (⟨#[44, 32]⟩ : ByteArray)) ++ (t340.extract 5 7)) ++ (⟨#[45]⟩ : ByteArray)) ++ (t340.extract 8 11)) ++ (⟨#[45]⟩ : ByteArray)) ++ (t340.extract 14 16)) ++ (⟨#[32]⟩ : ByteArray)).size + (t340.extract 17 25).size ≤ 9223372036854775807) = true := decide_eq_true c96
                                                    try have c96b2 : (9223372036854775807 < (((((((x6_2 ++ (⟨#[44, 32]⟩ : ByteArray)) ++ (t340.extract 5 7)) ++ (⟨#[45]⟩ : ByteArray)) ++ (t340.extract 8 11)) ++ (⟨#[45]⟩ : ByteArray)) ++ (t340.extract 14 16)) ++ (⟨#[32]⟩ : ByteArray)).size + (t340.extract 17 25).size) = False := eq_false (Nat.not_lt.2 c96)
                                                    (try (have c96y : (9223372036854775807 < x6_2.size + 2 + (min 7 t340.size - 5) + 1 + (min 11 t340.size - 8) + 1 + (min 16 t340.size - 14) + 1 + (min 25 t340.size - 17)) = False := eq_false (by have zz := c96; simp only [ByteArray.size_append, ByteArray.size_extract, Nat.sub_zero] at zz; have e0 : (⟨#[44, 32]⟩ : ByteArray).size = 2 := rfl; have e1 : (⟨#[45]⟩ : ByteArray).size = 1 := rfl; have e2 : (⟨#[32]⟩ : ByteArray).size = 1 := rfl; omega)))
                                                    (try (have c96s := c96; simp [go_sem] at c96s)); (try (have c96z := eq_false (Nat.not_lt.2 c96s)))
                                                    by_cases c97 : ((((((((x6_2 ++ (⟨#[44, 32]⟩ : ByteArray)) ++ (t340.extract 5 7)) ++ (⟨#[45]⟩ : ByteArray)) ++ (t340.extract 8 11)) ++ (⟨#[45]⟩ : ByteArray)) ++ (t340.extract 14 16)) ++ (⟨#[32]⟩ : ByteArray)) ++ (t340.extract 17 25)).size + 4 ≤ 9223372036854775807
                                                    · rw [if_pos c97] at H
                                                      have c97b0 := eq_true c97
                                                      have c97b1 : decide (((((((((x6_2 ++ (⟨#[44, 32]⟩ : ByteArray)) ++ (t340.extract 5 7)) ++ (⟨#[45]⟩ : ByteArray)) ++ (t340.extract 8 11)) ++ (⟨#[45]⟩ : ByteArray)) ++ (t340.extract 14 16)) ++ (⟨#[32]⟩ : ByteArray)) ++ (t340.extract 17 25)).size + 4 ≤ 9223372036854775807) = true := decide_eq_true c97
                                                      try have c97b2 : (9223372036854775807 < ((((((((x6_2 ++ (⟨#[44, 32]⟩ : ByteArray)) ++ (t340.extract 5 7)) ++ (⟨#[45]⟩ : ByteArray)) ++ (t340.extract 8 11)) ++ (⟨#[45]⟩ : ByteArray)) ++ (t340.extract 14 16)) ++ (⟨#[32]⟩ : ByteArray)) ++ (t340.extract 17 25)).size + 4) = False := eq_false (Nat.not_lt.2 c97)
                                                      (try (have c97y : (9223372036854775807 < x6_2.size + 2 + (min 7 t340.size - 5) + 1 + (min 11 t340.size - 8) + 1 + (min 16 t340.size - 14) + 1 + (min 25 t340.size - 17) + 4) = False := eq_false (by have zz := c97; simp only [ByteArray.size_append, ByteArray.size_extract, Nat.sub_zero] at zz; have e0 : (⟨#[44, 32]⟩ : ByteArray).size = 2 := rfl; have e1 : (⟨#[45]⟩ : ByteArray).size = 1 := rfl; have e2 : (⟨#[32]⟩ : ByteArray).size = 1 := rfl; omega)))
                                                      (try (have c97s := c97; simp [go_sem] at c97s)); (try (have c97z := eq_false (Nat.not_lt.2 c97s)))
                                                      replace H := Option.bind_eq_some_iff.mp H
                                                      obtain ⟨⟨t353, t354⟩, A980, H⟩ := H
                                                      replace H : (if 0 ≤ 3 then (if 3 ≤ (t340.size : Int) then (if (t340.extract 0 3).size + 1 ≤ 9223372036854775807 then (if ((t340.extract 0 3) ++ (⟨#[32]⟩ : ByteArray)).size + (t340.extract 8 11).size ≤ 9223372036854775807 then (if (((t340.extract 0 3) ++ (⟨#[32]⟩ : ByteArray)) ++ (t340.extract 8 11)).size + 1 ≤ 9223372036854775807 then (if ((((t340.extract 0 3) ++ (⟨#[32]⟩ : ByteArray)) ++ (t340.extract 8 11)) ++ (⟨#[32]⟩ : ByteArray)).size + (t340.extract 5 7).size ≤ 9223372036854775807 then (if (((((t340.extract 0 3) ++ (⟨#[32]⟩ : ByteArray)) ++ (t340.extract 8 11)) ++ (⟨#[32]⟩ : ByteArray)) ++ (t340.extract 5 7)).size + 1 ≤ 9223372036854775807 then (if ((((((t340.extract 0 3) ++ (⟨#[32]⟩ : ByteArray)) ++ (t340.extract 8 11)) ++ (⟨#[32]⟩ : ByteArray)) ++ (t340.extract 5 7)) ++ (⟨#[32]⟩ : ByteArray)).size + (t340.extract 17 25).size ≤ 9223372036854775807 then (if (((((((t340.extract 0 3) ++ (⟨#[32]⟩ : ByteArray)) ++ (t340.extract 8 11)) ++ (⟨#[32]⟩ : ByteArray)) ++ (t340.extract 5 7)) ++ (⟨#[32]⟩ : ByteArray)) ++ (t340.extract 17 25)).size + 1 ≤ 9223372036854775807 then (if 12 ≤ 16 then (if ((((((((t340.extract 0 3) ++ (⟨#[32]⟩ : ByteArray)) ++ (t340.extract 8 11)) ++ (⟨#[32]⟩ : ByteArray)) ++ (t340.extract 5 7)) ++ (⟨#[32]⟩ : ByteArray)) ++ (t340.extract 17 25)) ++ (⟨#[32]⟩ : ByteArray)).size + (t340.extract 12 16).size ≤ 9223372036854775807 then ((date_Parse.f k2 (((((((((t340.extract 0 3) ++ (⟨#[32]⟩ : ByteArray)) ++ (t340.extract 8 11)) ++ (⟨#[32]⟩ : ByteArray)) ++ (t340.extract 5 7)) ++ (⟨#[32]⟩ : ByteArray)) ++ (t340.extract 17 25)) ++ (⟨#[32]⟩ : ByteArray)) ++ (t340.extract 12 16)) a0).bind fun bt355 => ((sprlaw15_first.f k2).bind fun t357 => (if t357 = true then (if x6_2.toList = ([] : List UInt8) then (some false) else (if t354 = 0 then (if bt355.2 = 0 then (if t353 = a0 then (some (bt355.1 == a0)) else (some false)) else (some false)) else (some false))) else (some false)))) else (none)) else (none)) else (none)) else (none)) else (none)) else (none)) else (none)) else (none)) else (none)) else (none)) else (none)) = some r := H
                                                      have A98 := Aside0.mk A980
                                                      clear A980
                                                      by_cases c99 : 0 ≤ 3
                                                      · rw [if_pos c99] at H
                                                        have c99b0 := eq_true c99
                                                        have c99b1 : decide (0 ≤ 3) = true := decide_eq_true c99
                                                        clear c99
                                                        by_cases c100 : 3 ≤ (t340.size : Int)
                                                        · rw [if_pos c100] at H
                                                          have c100b0 := eq_true c100
                                                          have c100b1 : decide (3 ≤ (t340.size : Int)) = true := decide_eq_true c100
                                                          clear c100
                                                          by_cases c101 : (t340.extract 0 3).size + 1 ≤ 9223372036854775807
                                                          · rw [if_pos c101] at H
                                                            have c101b0 := eq_true c101
                                                            have c101b1 : decide ((t340.extract 0 3).size + 1 ≤ 9223372036854775807) = true := decide_eq_true c101
                                                            try have c101b2 : (9223372036854775807 < (t340.extract 0 3).size + 1) = False := eq_false (Nat.not_lt.2 c101)
                                                            (try (have c101y : (9223372036854775807 < min 3 t340.size + 1) = False := eq_false (by have zz := c101; simp only [ByteArray.size_append, ByteArray.size_extract, Nat.sub_zero] at zz; omega)))
                                                            (try (have c101s := c101; simp [go_sem] at c101s)); (try (have c101z := eq_false (Nat.not_lt.2 c101s)))
                                                            have c102b0 := eq_true (of_decide_eq_true (by first | (with_reducible assumption) | assumption) : 8 ≤ 11)
                                                            have c103b0 := eq_true (of_decide_eq_true (by first | (with_reducible assumption) | assumption) : 11 ≤ (t340.size : Int))
                                                            by_cases c104 : ((t340.extract 0 3) ++ (⟨#[32]⟩ : ByteArray)).size + (t340.extract 8 11).size ≤ 9223372036854775807
                                                            · rw [if_pos c104] at H
                                                              have c104b0 := eq_true c104
                                                              have c104b1 : decide (((t340.extract 0 3) ++ (⟨#[32]⟩ : ByteArray)).size + (t340.extract 8 11).size ≤ 9223372036854775807) = true := decide_eq_true c104
                                                              try have c104b2 : (9223372036854775807 < ((t340.extract 0 3) ++ (⟨#[32]⟩ : ByteArray)).size + (t340.extract 8 11).size) = False := eq_false (Nat.not_lt.2 c104)
                                                              (try (have c104y : (9223372036854775807 < min 3 t340.size + 1 + (min 11 t340.size - 8)) = False := eq_false (by have zz := c104; simp only [ByteArray.size_append, ByteArray.size_extract, Nat.sub_zero] at zz; have e0 : (⟨#[32]⟩ : ByteArray).size = 1 := rfl; omega)))
                                                              (try (have c104s := c104; simp [go_sem] at c104s)); (try (have c104z := eq_false (Nat.not_lt.2 c104s)))
                                                              by_cases c105 : (((t340.extract 0 3) ++ (⟨#[32]⟩ : ByteArray)) ++ (t340.extract 8 11)).size + 1 ≤ 9223372036854775807
                                                              · rw [if_pos c105] at H
                                                                have c105b0 := eq_true c105
                                                                have c105b1 : decide ((((t340.extract 0 3) ++ (⟨#[32]⟩ : ByteArray)) ++ (t340.extract 8 11)).size + 1 ≤ 9223372036854775807) = true := decide_eq_true c105
                                                                try have c105b2 : (9223372036854775807 < (((t340.extract 0 3) ++ (⟨#[32]⟩ : ByteArray)) ++ (t340.extract 8 11)).size + 1) = False := eq_false (Nat.not_lt.2 c105)
                                                                (try (have c105y : (9223372036854775807 < min 3 t340.size + 1 + (min 11 t340.size - 8) + 1) = False := eq_false (by have zz := c105; simp only [ByteArray.size_append, ByteArray.size_extract, Nat.sub_zero] at zz; have e0 : (⟨#[32]⟩ : ByteArray).size = 1 := rfl; omega)))
                                                                (try (have c105s := c105; simp [go_sem] at c105s)); (try (have c105z := eq_false (Nat.not_lt.2 c105s)))
                                                                by_cases c106 : ((((t340.extract 0 3) ++ (⟨#[32]⟩ : ByteArray)) ++ (t340.extract 8 11)) ++ (⟨#[32]⟩ : ByteArray)).size + (t340.extract 5 7).size ≤ 9223372036854775807
                                                                · rw [if_pos c106] at H
                                                                  have c106b0 := eq_true c106
                                                                  have c106b1 : decide (((((t340.extract 0 3) ++ (⟨#[32]⟩ : ByteArray)) ++ (t340.extract 8 11)) ++ (⟨#[32]⟩ : ByteArray)).size + (t340.extract 5 7).size ≤ 9223372036854775807) = true := decide_eq_true c106
                                                                  try have c106b2 : (9223372036854775807 < ((((t340.extract 0 3) ++ (⟨#[32]⟩ : ByteArray)) ++ (t340.extract 8 11)) ++ (⟨#[32]⟩ : ByteArray)).size + (t340.extract 5 7).size) = False := eq_false (Nat.not_lt.2 c106)
                                                                  (try (have c106y : (9223372036854775807 < min 3 t340.size + 1 + (min 11 t340.size - 8) + 1 + (min 7 t340.size - 5)) = False := eq_false (by have zz := c106; simp only [ByteArray.size_append, ByteArray.size_extract, Nat.sub_zero] at zz; have e0 : (⟨#[32]⟩ : ByteArray).size = 1 := rfl; omega)))
                                                                  (try (have c106s := c106; simp [go_sem] at c106s)); (try (have c106z := eq_false (Nat.not_lt.2 c106s)))
                                                                  by_cases c107 : (((((t340.extract 0 3) ++ (⟨#[32]⟩ : ByteArray)) ++ (t340.extract 8 11)) ++ (⟨#[32]⟩ : ByteArray)) ++ (t340.extract 5 7)).size + 1 ≤ 9223372036854775807
                                                                  · rw [if_pos c107] at H
                                                                    have c107b0 := eq_true c107
                                                                    have c107b1 : decide ((((((t340.extract 0 3) ++ (⟨#[32]⟩ : ByteArray)) ++ (t340.extract 8 11)) ++ (⟨#[32]⟩ : ByteArray)) ++ (t340.extract 5 7)).size + 1 ≤ 9223372036854775807) = true := decide_eq_true c107
                                                                    try have c107b2 : (9223372036854775807 < (((((t340.extract 0 3) ++ (⟨#[32]⟩ : ByteArray)) ++ (t340.extract 8 11)) ++ (⟨#[32]⟩ : ByteArray)) ++ (t340.extract 5 7)).size + 1) = False := eq_false (Nat.not_lt.2 c107)
                                                                    (try (have c107y : (9223372036854775807 < min 3 t340.size + 1 + (min 11 t340.size - 8) + 1 + (min 7 t340.size - 5) + 1) = False := eq_false (by have zz := c107; simp only [ByteArray.size_append, ByteArray.size_extract, Nat.sub_zero] at zz; have e0 : (⟨#[32]⟩ : ByteArray).size = 1 := rfl; omega)))
                                                                    (try (have c107s := c107; simp [go_sem] at c107s)); (try (have c107z := eq_false (Nat.not_lt.2 c107s)))
                                                                    have c108b0 := eq_true (of_decide_eq_true (by first | (with_reducible assumption) | assumption) : 17 ≤ 25)
                                                                    have c109b0 := eq_true (of_decide_eq_true (by first | (with_reducible assumption) | assumption) : 25 ≤ (t340.size : Int))
                                                                    by_cases c110 : ((((((t340.extract 0 3) ++ (⟨#[32]⟩ : ByteArray)) ++ (t340.extract 8 11)) ++ (⟨#[32]⟩ : ByteArray)) ++ (t340.extract 5 7)) ++ (⟨#[32]⟩ : ByteArray)).size + (t340.extract 17 25).size ≤ 9223372036854775807
                                                                    · rw [if_pos c110] at H
                                                                      have c110b0 := eq_true c110
                                                                      have c110b1 : decide (((((((t340.extract 0 3) ++ (⟨#[32]⟩ : ByteArray)) ++ (t340.extract 8 11)) ++ (⟨#[32]⟩ : ByteArray)) ++ (t340.extract 5 7)) ++ (⟨#[32]⟩ : ByteArray)).size + (t340.extract 17 25).size ≤ 9223372036854775807) = true := decide_eq_true c110
                                                                      try have c110b2 : (9223372036854775807 < ((((((t340.extract 0 3) ++ (⟨#[32]⟩ : ByteArray)) ++ (t340.extract 8 11)) ++ (⟨#[32]⟩ : ByteArray)) ++ (t340.extract 5 7)) ++ (⟨#[32]⟩ : ByteArray)).size + (t340.extract 17 25).size) = False := eq_false (Nat.not_lt.2 c110)
                                                                      (try (have c110y : (9223372036854775807 < min 3 t340.size + 1 + (min 11 t340.size - 8) + 1 + (min 7 t340.size - 5) + 1 + (min 25 t340.size - 17)) = False := eq_false (by have zz := c110; simp only [ByteArray.size_append, ByteArray.size_extract, Nat.sub_zero] at zz; have e0 : (⟨#[32]⟩ : ByteArray).size = 1 := rfl; omega)))
                                                                      (try (have c110s := c110; simp [go_sem] at c110s)); (try (have c110z := eq_false (Nat.not_lt.2 c110s)))
                                                                      by_cases c111 : (((((((t340.extract 0 3) ++ (⟨#[32]⟩ : ByteArray)) ++ (t340.extract 8 11)) ++ (⟨#[32]⟩ : ByteArray)) ++ (t340.extract 5 7)) ++ (⟨#[32]⟩ : ByteArray)) ++ (t340.extract 17 25)).size + 1 ≤ 9223372036854775807
                                                                      · rw [if_pos c111] at H
                                                                        have c111b0 := eq_true c111
                                                                        have c111b1 : decide ((((((((t340.extract 0 3) ++ (⟨#[32]⟩ : ByteArray)) ++ (t340.extract 8 11)) ++ (⟨#[32]⟩ : ByteArray)) ++ (t340.extract 5 7)) ++ (⟨#[32]⟩ : ByteArray)) ++ (t340.extract 17 25)).size + 1 ≤ 9223372036854775807) = true := decide_eq_true c111
                                                                        try have c111b2 : (9223372036854775807 < (((((((t340.extract 0 3) ++ (⟨#[32]⟩ : ByteArray)) ++ (t340.extract 8 11)) ++ (⟨#[32]⟩ : ByteArray)) ++ (t340.extract 5 7)) ++ (⟨#[32]⟩ : ByteArray)) ++ (t340.extract 17 25)).size + 1) = False := eq_false (Nat.not_lt.2 c111)
                                                                        (try (have c111y : (9223372036854775807 < min 3 t340.size + 1 + (min 11 t340.size - 8) + 1 + (min 7 t340.size - 5) + 1 + (min 25 t340.size - 17) + 1) = False := eq_false (by have zz := c111; simp only [ByteArray.size_append, ByteArray.size_extract, Nat.sub_zero] at zz; have e0 : (⟨#[32]⟩ : ByteArray).size = 1 := rfl; omega)))
                                                                        (try (have c111s := c111; simp [go_sem] at c111s)); (try (have c111z := eq_false (Nat.not_lt.2 c111s)))
                                                                        by_cases c112 : 12 ≤ 16
                                                                        · rw [if_pos c112] at H
                                                                          have c112b0 := eq_true c112
                                                                          have c112b1 : decide (12 ≤ 16) = true := decide_eq_true c112
                                                                          clear c112
                                                                          have c113b0 := eq_true (of_decide_eq_true (by first | (with_reducible assumption) | assumption) : 16 ≤ (t340.size : Int))
                                                                          by_cases c114 : ((((((((t340.extract 0 3) ++ (⟨#[32]⟩ : ByteArray)) ++ (t340.extract 8 11)) ++ (⟨#[32]⟩ : ByteArray)) ++ (t340.extract 5 7)) ++ (⟨#[32]⟩ : ByteArray)) ++ (t340.extract 17 25)) ++ (⟨#[32]⟩ : ByteArray)).size + (t340.extract 12 16).size ≤ 9223372036854775807
                                                                          · rw [if_pos c114] at H
                                                                            have c114b0 := eq_true c114
                                                                            have c114b1 : decide (((((((((t340.extract 0 3) ++ (⟨#[32]⟩ : ByteArray)) ++ (t340.extract 8 11)) ++ (⟨#[32]⟩ : ByteArray)) ++ (t340.extract 5 7)) ++ (⟨#[32]⟩ : ByteArray)) ++ (t340.extract 17 25)) ++ (⟨#[32]⟩ : ByteArray)).size + (t340.extract 12 16).size ≤ 9223372036854775807) = true := decide_eq_true c114
                                                                            try have c114b2 : (9223372036854775807 < ((((((((t340.extract 0 3) ++ (⟨#[32]⟩ : ByteArray)) ++ (t340.extract 8 11)) ++ (⟨#[32]⟩ : ByteArray)) ++ (t340.extract 5 7)) ++ (⟨#[32]⟩ : ByteArray)) ++ (t340.extract 17 25)) ++ (⟨#[32]⟩ : ByteArray)).size + (t340.extract 12 16).size) = False := eq_false (Nat.not_lt.2 c114)
                                                                            (try (have c114y : (9223372036854775807 < min 3 t340.size + 1 + (min 11 t340.size - 8) + 1 + (min 7 t340.size - 5) + 1 + (min 25 t340.size - 17) + 1 + (min 16 t340.size - 12)) = False := eq_false (by have zz := c114; simp only [ByteArray.size_append, ByteArray.size_extract, Nat.sub_zero] at zz; have e0 : (⟨#[32]⟩ : ByteArray).size = 1 := rfl; omega)))
                                                                            (try (have c114s := c114; simp [go_sem] at c114s)); (try (have c114z := eq_false (Nat.not_lt.2 c114s)))
                                                                            replace H := Option.bind_eq_some_iff.mp H
                                                                            obtain ⟨⟨t355, t356⟩, A1150, H⟩ := H
                                                                            replace H : ((sprlaw15_first.f k2).bind fun t357 => (if t357 = true then (if x6_2.toList = ([] : List UInt8) then (some false) else (if t354 = 0 then (if t356 = 0 then (if t353 = a0 then (some (t355 == a0)) else (some false)) else (some false)) else (some false))) else (some false))) = some r := H
                                                                            have A115 := Aside0.mk A1150
                                                                            clear A1150
                                                                            replace H := Option.bind_eq_some_iff.mp H
                                                                            obtain ⟨t357, A1160, H⟩ := H
                                                                            replace H : (if t357 = true then (if x6_2.toList = ([] : List UInt8) then (some false) else (if t354 = 0 then (if t356 = 0 then (if t353 = a0 then (some (t355 == a0)) else (some false)) else (some false)) else (some false))) else (some false)) = some r := H
                                                                            have A116 := Aside0.mk A1160
                                                                            clear A1160
                                                                            by_cases c117 : t357 = true
                                                                            · subst c117
                                                                              have H1 : (if x6_2.toList = ([] : List UInt8) then (some false) else (if t354 = 0 then (if t356 = 0 then (if t353 = a0 then (some (t355 == a0)) else (some false)) else (some false)) else (some false))) = some r := by rw [if_pos rfl] at H; exact H
                                                                              clear H
                                                                              have H := H1
                                                                              clear H1
                                                                              by_cases c118 : x6_2.toList = ([] : List UInt8)
                                                                              · rw [if_pos c118] at H
                                                                                have c118b0 : (x6_2.toList == ([] : List UInt8)) = true := beq_iff_eq.mpr c118
                                                                                have c118b1 : (x6_2.toList != ([] : List UInt8)) = false := bne_eq_false_iff_eq.mpr c118
                                                                                clear c118
                                                                                exact absurd ((Option.some.inj H).trans hT.out) (by decide)
                                                                              · rw [if_neg c118] at H
                                                                                have c118b0 : (x6_2.toList == ([] : List UInt8)) = false := beq_eq_false_iff_ne.mpr c118
                                                                                have c118b1 : (x6_2.toList != ([] : List UInt8)) = true := bne_iff_ne.mpr c118
                                                                                by_cases c119 : t354 = 0
                                                                                · rw [if_pos c119] at H
                                                                                  have c119b0 : (t354 == 0) = true := beq_iff_eq.mpr c119
                                                                                  have c119b1 : (t354 != 0) = false := bne_eq_false_iff_eq.mpr c119
                                                                                  clear c119
                                                                                  by_cases c120 : t356 = 0
                                                                                  · rw [if_pos c120] at H
                                                                                    have c120b0 : (t356 == 0) = true := beq_iff_eq.mpr c120
                                                                                    have c120b1 : (t356 != 0) = false := bne_eq_false_iff_eq.mpr c120
                                                                                    clear c120
                                                                                    by_cases c121 : t353 = a0
                                                                                    · rw [if_pos c121] at H
                                                                                      have c121b0 : (t353 == a0) = true := beq_iff_eq.mpr c121
                                                                                      have c121b1 : (t353 != a0) = false := bne_eq_false_iff_eq.mpr c121
                                                                                      clear c121
                                                                                      obtain rfl := Option.some.inj H
                                                                                      obtain ⟨Ao122, co122, eo122⟩ := Kd.R_slice HO_5.out
                                                                                      subst eo122
                                                                                      have p30 : 0 ≤ (0 : Int) := (by omega)
                                                                                      have q30 : 0 < (t340.extract 5 7).size := (by have : (0 : Int) < ((t340.extract 5 7).size : Int) := of_decide_eq_true (by first | (with_reducible assumption) | assumption); omega)
                                                                                      have hx30 : ∀ h : 0 < (t340.extract 5 7).size, (((t340.extract 5 7)[0]'h).toNat : Int) = bt (t340.extract 5 7) 0 := bt_at (t340.extract 5 7) 0
                                                                                      clear p30
                                                                                      have qi30 : (0 < ((t340.extract 5 7).size : Int)) = True := eq_true (of_decide_eq_true (by first | (with_reducible assumption) | assumption))
                                                                                      replace q30 := eq_true q30
                                                                                      try go_wp2
                                                                                      have n0_ := Aside0.mk (Kd.R_drew HO_5.out)
                                                                                      have n1_ := Aside0.mk (below_drew1 HB.out)
                                                                                      clear HO_5
                                                                                      clear HB
                                                                                      have HO_5 := n0_
                                                                                      have HB := n1_
                                                                                      clear n0_ n1_
                                                                                      refine start_ (n := 25) (S := fun w' => True) (ds := []) #[false, false, false, false, false, false, false, false, false, false, false, false, false, false, false, false, false, false, false, false, false, false, false, false, false] (by kernel_rfl) rfl rfl trivial (fun hHeld => ?_); refine with_tabW sprlaw15_DateForms.tab16 sprlaw15_DateForms.bits16 (fun HT_ HW_ => ?_)
                                                                                      generalize wr.drew = w123 at HO_5 HB hHeld ⊢
                                                                                      refine pure_ (i := 0) (N := some 64) (v := ?_) (a' := ?_) #[true, false, false, false, false, false, false, false, false, false, false, false, false, false, false, false, false, false, false, false, false, false, false, false, false] rfl rfl (any_of HT_.out (by kernel_rfl)) (fun _ _ _ h => h) (Or.inl ⟨by rfl, ?_⟩) ?_ ?_
                                                                                      rotate_left
                                                                                      · intro w'
                                                                                        go_simp
                                                                                        with_reducible rfl
                                                                                      rotate_left
                                                                                      · simp only [Act.put, List.setIfInBounds_toArray, List.set_cons_zero, List.set_cons_succ, i64_w, i32_w]
                                                                                        rfl
                                                                                      refine pure_ (i := 1) (N := some 65) (v := ?_) (a' := ?_) #[true, true, false, false, false, false, false, false, false, false, false, false, false, false, false, false, false, false, false, false, false, false, false, false, false] rfl rfl (any_of HT_.out (by kernel_rfl)) (fun _ _ _ h => h) (Or.inl ⟨by rfl, ?_⟩) ?_ ?_
                                                                                      rotate_left
                                                                                      · intro w'
                                                                                        go_simp
                                                                                        with_reducible rfl
                                                                                      rotate_left
                                                                                      · simp only [Act.put, List.setIfInBounds_toArray, List.set_cons_zero, List.set_cons_succ, i64_w, i32_w]
                                                                                        rfl
                                                                                      refine pure_ (i := 2) (N := some 66) (v := ?_) (a' := ?_) #[true, true, true, false, false, false, false, false, false, false, false, false, false, false, false, false, false, false, false, false, false, false, false, false, false] rfl rfl (any_of HT_.out (by kernel_rfl)) (fun _ _ _ h => h) (Or.inl ⟨by rfl, ?_⟩) ?_ ?_
                                                                                      rotate_left
                                                                                      · intro w'
                                                                                        go_simp
                                                                                        with_reducible rfl
                                                                                      rotate_left
                                                                                      · simp only [Act.put, List.setIfInBounds_toArray, List.set_cons_zero, List.set_cons_succ, i64_w, i32_w]
                                                                                        rfl
                                                                                      refine pure_ (i := 3) (N := some 67) (v := ?_) (a' := ?_) #[true, true, true, true, false, false, false, false, false, false, false, false, false, false, false, false, false, false, false, false, false, false, false, false, false] rfl rfl (any_of HT_.out (by kernel_rfl)) (fun _ _ _ h => h) (Or.inl ⟨by rfl, ?_⟩) ?_ ?_
                                                                                      rotate_left
                                                                                      · intro w'
                                                                                        go_simp
                                                                                        with_reducible rfl
                                                                                      rotate_left
                                                                                      · simp only [Act.put, List.setIfInBounds_toArray, List.set_cons_zero, List.set_cons_succ, i64_w, i32_w]
                                                                                        rfl
                                                                                      refine pure_ (i := 4) (N := some 68) (v := ?_) (a' := ?_) #[true, true, true, true, true, false, false, false, false, false, false, false, false, false, false, false, false, false, false, false, false, false, false, false, false] rfl rfl (any_of HT_.out (by kernel_rfl)) (fun _ _ _ h => h) (Or.inl ⟨by rfl, ?_⟩) ?_ ?_
                                                                                      rotate_left
                                                                                      · intro w'
                                                                                        go_simp
                                                                                        with_reducible rfl
                                                                                      rotate_left
                                                                                      · simp only [Act.put, List.setIfInBounds_toArray, List.set_cons_zero, List.set_cons_succ, i64_w, i32_w]
                                                                                        rfl
                                                                                      refine pure_ (i := 5) (N := some 69) (v := ?_) (a' := ?_) #[true, true, true, true, true, true, false, false, false, false, false, false, false, false, false, false, false, false, false, false, false, false, false, false, false] rfl rfl (any_of HT_.out (by kernel_rfl)) (fun _ _ _ h => h) (Or.inl ⟨by rfl, ?_⟩) ?_ ?_
                                                                                      rotate_left
                                                                                      · intro w'
                                                                                        go_simp
                                                                                        with_reducible rfl
                                                                                      rotate_left
                                                                                      · simp only [Act.put, List.setIfInBounds_toArray, List.set_cons_zero, List.set_cons_succ, i64_w, i32_w]
                                                                                        rfl
                                                                                      refine pure_ (i := 6) (N := some 70) (v := ?_) (a' := ?_) #[true, true, true, true, true, true, true, false, false, false, false, false, false, false, false, false, false, false, false, false, false, false, false, false, false] rfl rfl (any_of HT_.out (by kernel_rfl)) (fun _ _ _ h => h) (Or.inl ⟨by rfl, ?_⟩) ?_ ?_
                                                                                      rotate_left
                                                                                      · intro w'
                                                                                        go_simp
                                                                                        with_reducible rfl
                                                                                      rotate_left
                                                                                      · simp only [Act.put, List.setIfInBounds_toArray, List.set_cons_zero, List.set_cons_succ, i64_w, i32_w]
                                                                                        rfl
                                                                                      refine pure_ (i := 7) (N := some 71) (v := ?_) (a' := ?_) #[true, true, true, true, true, true, true, true, false, false, false, false, false, false, false, false, false, false, false, false, false, false, false, false, false] rfl rfl (any_of HT_.out (by kernel_rfl)) (fun _ _ _ h => h) (Or.inl ⟨by rfl, ?_⟩) ?_ ?_
                                                                                      rotate_left
                                                                                      · intro w'
                                                                                        go_simp
                                                                                        with_reducible rfl
                                                                                      rotate_left
                                                                                      · simp only [Act.put, List.setIfInBounds_toArray, List.set_cons_zero, List.set_cons_succ, i64_w, i32_w]
                                                                                        rfl
                                                                                      refine pure_ (i := 8) (N := some 72) (v := ?_) (a' := ?_) #[true, true, true, true, true, true, true, true, true, false, false, false, false, false, false, false, false, false, false, false, false, false, false, false, false] rfl rfl (any_of HT_.out (by kernel_rfl)) (fun _ _ _ h => h) (Or.inl ⟨by rfl, ?_⟩) ?_ ?_
                                                                                      rotate_left
                                                                                      · intro w'
                                                                                        go_simp
                                                                                        with_reducible rfl
                                                                                      rotate_left
                                                                                      · simp only [Act.put, List.setIfInBounds_toArray, List.set_cons_zero, List.set_cons_succ, i64_w, i32_w]
                                                                                        rfl
                                                                                      refine pure_ (i := 9) (N := some 73) (v := ?_) (a' := ?_) #[true, true, true, true, true, true, true, true, true, true, false, false, false, false, false, false, false, false, false, false, false, false, false, false, false] rfl rfl (any_of HT_.out (by kernel_rfl)) (fun _ _ _ h => h) (Or.inl ⟨by rfl, ?_⟩) ?_ ?_
                                                                                      rotate_left
                                                                                      · intro w'
                                                                                        go_simp
                                                                                        with_reducible rfl
                                                                                      rotate_left
                                                                                      · simp only [Act.put, List.setIfInBounds_toArray, List.set_cons_zero, List.set_cons_succ, i64_w, i32_w]
                                                                                        rfl
                                                                                      refine pure_ (i := 10) (N := some 74) (v := ?_) (a' := ?_) #[true, true, true, true, true, true, true, true, true, true, true, false, false, false, false, false, false, false, false, false, false, false, false, false, false] rfl rfl (any_of HT_.out (by kernel_rfl)) (fun _ _ _ h => h) (Or.inl ⟨by rfl, ?_⟩) ?_ ?_
                                                                                      rotate_left
                                                                                      · intro w'
                                                                                        go_simp
                                                                                        with_reducible rfl
                                                                                      rotate_left
                                                                                      · simp only [Act.put, List.setIfInBounds_toArray, List.set_cons_zero, List.set_cons_succ, i64_w, i32_w]
                                                                                        rfl
                                                                                      refine pure_ (i := 11) (N := some 75) (v := ?_) (a' := ?_) #[true, true, true, true, true, true, true, true, true, true, true, true, false, false, false, false, false, false, false, false, false, false, false, false, false] rfl rfl (any_of HT_.out (by kernel_rfl)) (fun _ _ _ h => h) (Or.inl ⟨by rfl, ?_⟩) ?_ ?_
                                                                                      rotate_left
                                                                                      · intro w'
                                                                                        go_simp
                                                                                        with_reducible rfl
                                                                                      rotate_left
                                                                                      · simp only [Act.put, List.setIfInBounds_toArray, List.set_cons_zero, List.set_cons_succ, i64_w, i32_w]
                                                                                        rfl
                                                                                      refine pure_ (i := 12) (N := some 76) (v := ?_) (a' := ?_) #[true, true, true, true, true, true, true, true, true, true, true, true, true, false, false, false, false, false, false, false, false, false, false, false, false] rfl rfl (any_of HT_.out (by kernel_rfl)) (fun _ _ _ h => h) (Or.inl ⟨by rfl, ?_⟩) ?_ ?_
                                                                                      rotate_left
                                                                                      · intro w'
                                                                                        go_simp
                                                                                        with_reducible rfl
                                                                                      rotate_left
                                                                                      · simp only [Act.put, List.setIfInBounds_toArray, List.set_cons_zero, List.set_cons_succ, i64_w, i32_w]
                                                                                        rfl
                                                                                      refine pure_ (i := 13) (N := some 77) (v := ?_) (a' := ?_) #[true, true, true, true, true, true, true, true, true, true, true, true, true, true, false, false, false, false, false, false, false, false, false, false, false] rfl rfl (any_of HT_.out (by kernel_rfl)) (fun _ _ _ h => h) (Or.inl ⟨by rfl, ?_⟩) ?_ ?_
                                                                                      rotate_left
                                                                                      · intro w'
                                                                                        go_simp
                                                                                        with_reducible rfl
                                                                                      rotate_left
                                                                                      · simp only [Act.put, List.setIfInBounds_toArray, List.set_cons_zero, List.set_cons_succ, i64_w, i32_w]
                                                                                        rfl
                                                                                      refine pure_ (i := 14) (N := some 78) (v := ?_) (a' := ?_) #[true, true, true, true, true, true, true, true, true, true, true, true, true, true, true, false, false, false, false, false, false, false, false, false, false] rfl rfl (any_of HT_.out (by kernel_rfl)) (fun _ _ _ h => h) (Or.inl ⟨by rfl, ?_⟩) ?_ ?_
                                                                                      rotate_left
                                                                                      · intro w'
                                                                                        go_simp
                                                                                        with_reducible rfl
                                                                                      rotate_left
                                                                                      · simp only [Act.put, List.setIfInBounds_toArray, List.set_cons_zero, List.set_cons_succ, i64_w, i32_w]
                                                                                        rfl
                                                                                      refine pure_ (i := 15) (N := some 79) (v := ?_) (a' := ?_) #[true, true, true, true, true, true, true, true, true, true, true, true, true, true, true, true, false, false, false, false, false, false, false, false, false] rfl rfl (any_of HT_.out (by kernel_rfl)) (fun _ _ _ h => h) (Or.inl ⟨by rfl, ?_⟩) ?_ ?_
                                                                                      rotate_left
                                                                                      · intro w'
                                                                                        go_simp
                                                                                        with_reducible rfl
                                                                                      rotate_left
                                                                                      · simp only [Act.put, List.setIfInBounds_toArray, List.set_cons_zero, List.set_cons_succ, i64_w, i32_w]
                                                                                        rfl
                                                                                      refine pure_ (i := 16) (N := some 80) (v := ?_) (a' := ?_) #[true, true, true, true, true, true, true, true, true, true, true, true, true, true, true, true, true, false, false, false, false, false, false, false, false] rfl rfl (any_of HT_.out (by kernel_rfl)) (fun _ _ _ h => h) (Or.inl ⟨by rfl, ?_⟩) ?_ ?_
                                                                                      rotate_left
                                                                                      · intro w'
                                                                                        go_simp
                                                                                        with_reducible rfl
                                                                                      rotate_left
                                                                                      · simp only [Act.put, List.setIfInBounds_toArray, List.set_cons_zero, List.set_cons_succ, i64_w, i32_w]
                                                                                        rfl
                                                                                      refine pure_ (i := 17) (N := some 81) (v := ?_) (a' := ?_) #[true, true, true, true, true, true, true, true, true, true, true, true, true, true, true, true, true, true, false, false, false, false, false, false, false] rfl rfl (any_of HT_.out (by kernel_rfl)) (fun _ _ _ h => h) (Or.inl ⟨by rfl, ?_⟩) ?_ ?_
                                                                                      rotate_left
                                                                                      · intro w'
                                                                                        go_simp
                                                                                        with_reducible rfl
                                                                                      rotate_left
                                                                                      · simp only [Act.put, List.setIfInBounds_toArray, List.set_cons_zero, List.set_cons_succ, i64_w, i32_w]
                                                                                        rfl
                                                                                      refine pure_ (i := 18) (N := some 82) (v := ?_) (a' := ?_) #[true, true, true, true, true, true, true, true, true, true, true, true, true, true, true, true, true, true, true, false, false, false, false, false, false] rfl rfl (any_of HT_.out (by kernel_rfl)) (fun _ _ _ h => h) (Or.inl ⟨by rfl, ?_⟩) ?_ ?_
                                                                                      rotate_left
                                                                                      · intro w'
                                                                                        go_simp
                                                                                        with_reducible rfl
                                                                                      rotate_left
                                                                                      · simp only [Act.put, List.setIfInBounds_toArray, List.set_cons_zero, List.set_cons_succ, i64_w, i32_w]
                                                                                        rfl
                                                                                      refine one_ (i := 19) (N := some 83) #[true, true, true, true, true, true, true, true, true, true, true, true, true, true, true, true, true, true, true, true, false, false, false, false, false] rfl rfl (one_of HT_.out (by kernel_rfl)) (by decide) (fun K hK => ?_)
                                                                                      refine goes_ Tryd.func10 (by kernel_rfl) rfl #[.string (((((((((x6_2 ++ (⟨#[44, 32]⟩ : ByteArray)) ++ (t340.extract 5 7)) ++ (⟨#[45]⟩ : ByteArray)) ++ (t340.extract 8 11)) ++ (⟨#[45]⟩ : ByteArray)) ++ (t340.extract 14 16)) ++ (⟨#[32]⟩ : ByteArray)) ++ (t340.extract 17 25)) ++ (⟨#[32, 71, 77, 84]⟩ : ByteArray)), .int .i64 a0] (by rfl) rfl rfl (by (try simp only [List.map_toArray, List.map_cons, List.map_nil]); first | done | rfl | (simp only [List.length_drop, List.length_take]; rfl)) ?_
                                                                                      with_reducible refine (date_Parse.calls k2 (((((((((x6_2 ++ (⟨#[44, 32]⟩ : ByteArray)) ++ (t340.extract 5 7)) ++ (⟨#[45]⟩ : ByteArray)) ++ (t340.extract 8 11)) ++ (⟨#[45]⟩ : ByteArray)) ++ (t340.extract 14 16)) ++ (⟨#[32]⟩ : ByteArray)) ++ (t340.extract 17 25)) ++ (⟨#[32, 71, 77, 84]⟩ : ByteArray)) a0 t353 t354 _ A98.out).mono ?_
                                                                                      rintro e w124 ⟨rfl, hb⟩
                                                                                      refine ⟨_, rfl, ?_⟩
                                                                                      have n0_ := Aside0.mk (Kd.R_below (by (with_reducible repeat (first | apply Kd.R_alloc | apply Kd.R_drewN | apply Kd.R_drew)); exact HO_5.out) hb)
                                                                                      have n1_ := Aside0.mk (below_step (by repeat (first | (with_reducible first | exact HB.out | apply below_alloc | apply pw_below_drewN | apply below_drew1) | exact HB.out)) hb)
                                                                                      clear HO_5
                                                                                      clear HB
                                                                                      have HO_5 := n0_
                                                                                      have HB := n1_
                                                                                      clear n0_ n1_
                                                                                      (try clear hb)
                                                                                      (try clear hb2)
                                                                                      (try clear hk)
                                                                                      (try clear hi)
                                                                                      refine hK.out _ _ trivial (fun hHeld => ?_)
                                                                                      clear hK K
                                                                                      refine norm_ (a' := ?_) ?_ ?_
                                                                                      rotate_left
                                                                                      · show Act.put _ (some 83) _ = _
                                                                                        simp only [Act.put, List.setIfInBounds_toArray, List.set_cons_zero, List.set_cons_succ, i64_w, i32_w]
                                                                                        rfl
                                                                                      refine pure_ (i := 20) (N := some 63) (v := ?_) (a' := ?_) #[true, true, true, true, true, true, true, true, true, true, true, true, true, true, true, true, true, true, true, true, true, false, false, false, false] rfl rfl (any_of HT_.out (by kernel_rfl)) (fun _ _ _ h => h) (Or.inl ⟨by rfl, ?_⟩) ?_ ?_
                                                                                      rotate_left
                                                                                      · intro w'
                                                                                        go_simp
                                                                                        with_reducible rfl
                                                                                      rotate_left
                                                                                      · simp only [Act.put, List.setIfInBounds_toArray, List.set_cons_zero, List.set_cons_succ, i64_w, i32_w]
                                                                                        rfl
                                                                                      refine pure_ (i := 21) (N := some 84) (v := ?_) (a' := ?_) #[true, true, true, true, true, true, true, true, true, true, true, true, true, true, true, true, true, true, true, true, true, true, false, false, false] rfl rfl (any_of HT_.out (by kernel_rfl)) (fun _ _ _ h => h) (Or.inl ⟨by rfl, ?_⟩) ?_ ?_
                                                                                      rotate_left
                                                                                      · intro w'
                                                                                        go_simp
                                                                                        with_reducible rfl
                                                                                      rotate_left
                                                                                      · simp only [Act.put, List.setIfInBounds_toArray, List.set_cons_zero, List.set_cons_succ, i64_w, i32_w]
                                                                                        rfl
                                                                                      refine pure_ (i := 22) (N := some 85) (v := ?_) (a' := ?_) #[true, true, true, true, true, true, true, true, true, true, true, true, true, true, true, true, true, true, true, true, true, true, true, false, false] rfl rfl (any_of HT_.out (by kernel_rfl)) (fun _ _ _ h => h) (Or.inl ⟨by rfl, ?_⟩) ?_ ?_
                                                                                      rotate_left
                                                                                      · intro w'
                                                                                        go_simp
                                                                                        with_reducible rfl
                                                                                      rotate_left
                                                                                      · simp only [Act.put, List.setIfInBounds_toArray, List.set_cons_zero, List.set_cons_succ, i64_w, i32_w]
                                                                                        rfl
                                                                                      refine pure_ (i := 23) (N := some 9) (v := ?_) (a' := ?_) #[true, true, true, true, true, true, true, true, true, true, true, true, true, true, true, true, true, true, true, true, true, true, true, true, false] rfl rfl (any_of HT_.out (by kernel_rfl)) (fun _ _ _ h => h) (Or.inl ⟨by rfl, ?_⟩) ?_ ?_
                                                                                      rotate_left
                                                                                      · intro w'
                                                                                        go_simp
                                                                                        with_reducible rfl
                                                                                      rotate_left
                                                                                      · simp only [Act.put, List.setIfInBounds_toArray, List.set_cons_zero, List.set_cons_succ, i64_w, i32_w]
                                                                                        rfl
                                                                                      refine pure_ (i := 24) (N := some 10) (v := ?_) (a' := ?_) #[true, true, true, true, true, true, true, true, true, true, true, true, true, true, true, true, true, true, true, true, true, true, true, true, true] rfl rfl (any_of HT_.out (by kernel_rfl)) (fun _ _ _ h => h) (Or.inl ⟨by rfl, ?_⟩) ?_ ?_
                                                                                      rotate_left
                                                                                      · intro w'
                                                                                        go_simp
                                                                                        with_reducible rfl
                                                                                      rotate_left
                                                                                      · simp only [Act.put, List.setIfInBounds_toArray, List.set_cons_zero, List.set_cons_succ, i64_w, i32_w]
                                                                                        rfl
                                                                                      refine done_ (done_of HT_.out (by kernel_rfl)) ?_
                                                                                      try go_wp2
                                                                                      have n0_ := Aside0.mk (Kd.R_drew HO_5.out)
                                                                                      have n1_ := Aside0.mk (below_drew1 HB.out)
                                                                                      clear HO_5
                                                                                      clear HB
                                                                                      have HO_5 := n0_
                                                                                      have HB := n1_
                                                                                      clear n0_ n1_
                                                                                      refine start_ (n := 24) (S := fun w' => True) (ds := []) #[false, false, false, false, false, false, false, false, false, false, false, false, false, false, false, false, false, false, false, false, false, false, false, false] (by kernel_rfl) rfl rfl trivial (fun hHeld => ?_); refine with_tabW sprlaw15_DateForms.tab17 sprlaw15_DateForms.bits17 (fun HT_ HW_ => ?_)
                                                                                      generalize w124.drew = w125 at HO_5 HB hHeld ⊢
                                                                                      refine pure_ (i := 0) (N := some 87) (v := ?_) (a' := ?_) #[true, false, false, false, false, false, false, false, false, false, false, false, false, false, false, false, false, false, false, false, false, false, false, false] rfl rfl (any_of HT_.out (by kernel_rfl)) (fun _ _ _ h => h) (Or.inl ⟨by rfl, ?_⟩) ?_ ?_
                                                                                      rotate_left
                                                                                      · intro w'
                                                                                        go_simp
                                                                                        with_reducible rfl
                                                                                      rotate_left
                                                                                      · simp only [Act.put, List.setIfInBounds_toArray, List.set_cons_zero, List.set_cons_succ, i64_w, i32_w]
                                                                                        rfl
                                                                                      refine pure_ (i := 1) (N := some 88) (v := ?_) (a' := ?_) #[true, true, false, false, false, false, false, false, false, false, false, false, false, false, false, false, false, false, false, false, false, false, false, false] rfl rfl (any_of HT_.out (by kernel_rfl)) (fun _ _ _ h => h) (Or.inl ⟨by rfl, ?_⟩) ?_ ?_
                                                                                      rotate_left
                                                                                      · intro w'
                                                                                        go_simp
                                                                                        with_reducible rfl
                                                                                      rotate_left
                                                                                      · simp only [Act.put, List.setIfInBounds_toArray, List.set_cons_zero, List.set_cons_succ, i64_w, i32_w]
                                                                                        rfl
                                                                                      refine pure_ (i := 2) (N := some 89) (v := ?_) (a' := ?_) #[true, true, true, false, false, false, false, false, false, false, false, false, false, false, false, false, false, false, false, false, false, false, false, false] rfl rfl (any_of HT_.out (by kernel_rfl)) (fun _ _ _ h => h) (Or.inl ⟨by rfl, ?_⟩) ?_ ?_
                                                                                      rotate_left
                                                                                      · intro w'
                                                                                        go_simp
                                                                                        with_reducible rfl
                                                                                      rotate_left
                                                                                      · simp only [Act.put, List.setIfInBounds_toArray, List.set_cons_zero, List.set_cons_succ, i64_w, i32_w]
                                                                                        rfl
                                                                                      refine pure_ (i := 3) (N := some 90) (v := ?_) (a' := ?_) #[true, true, true, true, false, false, false, false, false, false, false, false, false, false, false, false, false, false, false, false, false, false, false, false] rfl rfl (any_of HT_.out (by kernel_rfl)) (fun _ _ _ h => h) (Or.inl ⟨by rfl, ?_⟩) ?_ ?_
                                                                                      rotate_left
                                                                                      · intro w'
                                                                                        go_simp
                                                                                        with_reducible rfl
                                                                                      rotate_left
                                                                                      · simp only [Act.put, List.setIfInBounds_toArray, List.set_cons_zero, List.set_cons_succ, i64_w, i32_w]
                                                                                        rfl
                                                                                      refine pure_ (i := 4) (N := some 91) (v := ?_) (a' := ?_) #[true, true, true, true, true, false, false, false, false, false, false, false, false, false, false, false, false, false, false, false, false, false, false, false] rfl rfl (any_of HT_.out (by kernel_rfl)) (fun _ _ _ h => h) (Or.inl ⟨by rfl, ?_⟩) ?_ ?_
                                                                                      rotate_left
                                                                                      · intro w'
                                                                                        go_simp
                                                                                        with_reducible rfl
                                                                                      rotate_left
                                                                                      · simp only [Act.put, List.setIfInBounds_toArray, List.set_cons_zero, List.set_cons_succ, i64_w, i32_w]
                                                                                        rfl
                                                                                      refine pure_ (i := 5) (N := some 92) (v := ?_) (a' := ?_) #[true, true, true, true, true, true, false, false, false, false, false, false, false, false, false, false, false, false, false, false, false, false, false, false] rfl rfl (any_of HT_.out (by kernel_rfl)) (fun _ _ _ h => h) (Or.inl ⟨by rfl, ?_⟩) ?_ ?_
                                                                                      rotate_left
                                                                                      · intro w'
                                                                                        go_simp
                                                                                        with_reducible rfl
                                                                                      rotate_left
                                                                                      · simp only [Act.put, List.setIfInBounds_toArray, List.set_cons_zero, List.set_cons_succ, i64_w, i32_w]
                                                                                        rfl
                                                                                      refine pure_ (i := 6) (N := some 93) (v := ?_) (a' := ?_) #[true, true, true, true, true, true, true, false, false, false, false, false, false, false, false, false, false, false, false, false, false, false, false, false] rfl rfl (any_of HT_.out (by kernel_rfl)) (fun _ _ _ h => h) (Or.inl ⟨by rfl, ?_⟩) ?_ ?_
                                                                                      rotate_left
                                                                                      · intro w'
                                                                                        go_simp
                                                                                        with_reducible rfl
                                                                                      rotate_left
                                                                                      · simp only [Act.put, List.setIfInBounds_toArray, List.set_cons_zero, List.set_cons_succ, i64_w, i32_w]
                                                                                        rfl
                                                                                      refine pure_ (i := 7) (N := some 94) (v := ?_) (a' := ?_) #[true, true, true, true, true, true, true, true, false, false, false, false, false, false, false, false, false, false, false, false, false, false, false, false] rfl rfl (any_of HT_.out (by kernel_rfl)) (fun _ _ _ h => h) (Or.inl ⟨by rfl, ?_⟩) ?_ ?_
                                                                                      rotate_left
                                                                                      · intro w'
                                                                                        go_simp
                                                                                        with_reducible rfl
                                                                                      rotate_left
                                                                                      · simp only [Act.put, List.setIfInBounds_toArray, List.set_cons_zero, List.set_cons_succ, i64_w, i32_w]
                                                                                        rfl
                                                                                      refine pure_ (i := 8) (N := some 95) (v := ?_) (a' := ?_) #[true, true, true, true, true, true, true, true, true, false, false, false, false, false, false, false, false, false, false, false, false, false, false, false] rfl rfl (any_of HT_.out (by kernel_rfl)) (fun _ _ _ h => h) (Or.inl ⟨by rfl, ?_⟩) ?_ ?_
                                                                                      rotate_left
                                                                                      · intro w'
                                                                                        go_simp
                                                                                        with_reducible rfl
                                                                                      rotate_left
                                                                                      · simp only [Act.put, List.setIfInBounds_toArray, List.set_cons_zero, List.set_cons_succ, i64_w, i32_w]
                                                                                        rfl
                                                                                      refine pure_ (i := 9) (N := some 96) (v := ?_) (a' := ?_) #[true, true, true, true, true, true, true, true, true, true, false, false, false, false, false, false, false, false, false, false, false, false, false, false] rfl rfl (any_of HT_.out (by kernel_rfl)) (fun _ _ _ h => h) (Or.inl ⟨by rfl, ?_⟩) ?_ ?_
                                                                                      rotate_left
                                                                                      · intro w'
                                                                                        go_simp
                                                                                        with_reducible rfl
                                                                                      rotate_left
                                                                                      · simp only [Act.put, List.setIfInBounds_toArray, List.set_cons_zero, List.set_cons_succ, i64_w, i32_w]
                                                                                        rfl
                                                                                      refine pure_ (i := 10) (N := some 97) (v := ?_) (a' := ?_) #[true, true, true, true, true, true, true, true, true, true, true, false, false, false, false, false, false, false, false, false, false, false, false, false] rfl rfl (any_of HT_.out (by kernel_rfl)) (fun _ _ _ h => h) (Or.inl ⟨by rfl, ?_⟩) ?_ ?_
                                                                                      rotate_left
                                                                                      · intro w'
                                                                                        go_simp
                                                                                        with_reducible rfl
                                                                                      rotate_left
                                                                                      · simp only [Act.put, List.setIfInBounds_toArray, List.set_cons_zero, List.set_cons_succ, i64_w, i32_w]
                                                                                        rfl
                                                                                      refine pure_ (i := 11) (N := some 98) (v := ?_) (a' := ?_) #[true, true, true, true, true, true, true, true, true, true, true, true, false, false, false, false, false, false, false, false, false, false, false, false] rfl rfl (any_of HT_.out (by kernel_rfl)) (fun _ _ _ h => h) (Or.inl ⟨by rfl, ?_⟩) ?_ ?_
                                                                                      rotate_left
                                                                                      · intro w'
                                                                                        go_simp
                                                                                        with_reducible rfl
                                                                                      rotate_left
                                                                                      · simp only [Act.put, List.setIfInBounds_toArray, List.set_cons_zero, List.set_cons_succ, i64_w, i32_w]
                                                                                        rfl
                                                                                      refine pure_ (i := 12) (N := some 99) (v := ?_) (a' := ?_) #[true, true, true, true, true, true, true, true, true, true, true, true, true, false, false, false, false, false, false, false, false, false, false, false] rfl rfl (any_of HT_.out (by kernel_rfl)) (fun _ _ _ h => h) (Or.inl ⟨by rfl, ?_⟩) ?_ ?_
                                                                                      rotate_left
                                                                                      · intro w'
                                                                                        go_simp
                                                                                        with_reducible rfl
                                                                                      rotate_left
                                                                                      · simp only [Act.put, List.setIfInBounds_toArray, List.set_cons_zero, List.set_cons_succ, i64_w, i32_w]
                                                                                        rfl
                                                                                      refine pure_ (i := 13) (N := some 100) (v := ?_) (a' := ?_) #[true, true, true, true, true, true, true, true, true, true, true, true, true, true, false, false, false, false, false, false, false, false, false, false] rfl rfl (any_of HT_.out (by kernel_rfl)) (fun _ _ _ h => h) (Or.inl ⟨by rfl, ?_⟩) ?_ ?_
                                                                                      rotate_left
                                                                                      · intro w'
                                                                                        go_simp
                                                                                        with_reducible rfl
                                                                                      rotate_left
                                                                                      · simp only [Act.put, List.setIfInBounds_toArray, List.set_cons_zero, List.set_cons_succ, i64_w, i32_w]
                                                                                        rfl
                                                                                      refine pure_ (i := 14) (N := some 101) (v := ?_) (a' := ?_) #[true, true, true, true, true, true, true, true, true, true, true, true, true, true, true, false, false, false, false, false, false, false, false, false] rfl rfl (any_of HT_.out (by kernel_rfl)) (fun _ _ _ h => h) (Or.inl ⟨by rfl, ?_⟩) ?_ ?_
                                                                                      rotate_left
                                                                                      · intro w'
                                                                                        go_simp
                                                                                        with_reducible rfl
                                                                                      rotate_left
                                                                                      · simp only [Act.put, List.setIfInBounds_toArray, List.set_cons_zero, List.set_cons_succ, i64_w, i32_w]
                                                                                        rfl
                                                                                      refine pure_ (i := 15) (N := some 102) (v := ?_) (a' := ?_) #[true, true, true, true, true, true, true, true, true, true, true, true, true, true, true, true, false, false, false, false, false, false, false, false] rfl rfl (any_of HT_.out (by kernel_rfl)) (fun _ _ _ h => h) (Or.inl ⟨by rfl, ?_⟩) ?_ ?_
                                                                                      rotate_left
                                                                                      · intro w'
                                                                                        go_simp
                                                                                        with_reducible rfl
                                                                                      rotate_left
                                                                                      · simp only [Act.put, List.setIfInBounds_toArray, List.set_cons_zero, List.set_cons_succ, i64_w, i32_w]
                                                                                        rfl
                                                                                      refine pure_ (i := 16) (N := some 103) (v := ?_) (a' := ?_) #[true, true, true, true, true, true, true, true, true, true, true, true, true, true, true, true, true, false, false, false, false, false, false, false] rfl rfl (any_of HT_.out (by kernel_rfl)) (fun _ _ _ h => h) (Or.inl ⟨by rfl, ?_⟩) ?_ ?_
                                                                                      rotate_left
                                                                                      · intro w'
                                                                                        go_simp
                                                                                        with_reducible rfl
                                                                                      rotate_left
                                                                                      · simp only [Act.put, List.setIfInBounds_toArray, List.set_cons_zero, List.set_cons_succ, i64_w, i32_w]
                                                                                        rfl
                                                                                      refine pure_ (i := 17) (N := some 104) (v := ?_) (a' := ?_) #[true, true, true, true, true, true, true, true, true, true, true, true, true, true, true, true, true, true, false, false, false, false, false, false] rfl rfl (any_of HT_.out (by kernel_rfl)) (fun _ _ _ h => h) (Or.inl ⟨by rfl, ?_⟩) ?_ ?_
                                                                                      rotate_left
                                                                                      · intro w'
                                                                                        go_simp
                                                                                        with_reducible rfl
                                                                                      rotate_left
                                                                                      · simp only [Act.put, List.setIfInBounds_toArray, List.set_cons_zero, List.set_cons_succ, i64_w, i32_w]
                                                                                        rfl
                                                                                      refine one_ (i := 18) (N := some 105) #[true, true, true, true, true, true, true, true, true, true, true, true, true, true, true, true, true, true, true, false, false, false, false, false] rfl rfl (one_of HT_.out (by kernel_rfl)) (by decide) (fun K hK => ?_)
                                                                                      refine goes_ Tryd.func10 (by kernel_rfl) rfl #[.string (((((((((t340.extract 0 3) ++ (⟨#[32]⟩ : ByteArray)) ++ (t340.extract 8 11)) ++ (⟨#[32]⟩ : ByteArray)) ++ (t340.extract 5 7)) ++ (⟨#[32]⟩ : ByteArray)) ++ (t340.extract 17 25)) ++ (⟨#[32]⟩ : ByteArray)) ++ (t340.extract 12 16)), .int .i64 a0] (by rfl) rfl rfl (by (try simp only [List.map_toArray, List.map_cons, List.map_nil]); first | done | rfl | (simp only [List.length_drop, List.length_take]; rfl)) ?_
                                                                                      with_reducible refine (date_Parse.calls k2 (((((((((t340.extract 0 3) ++ (⟨#[32]⟩ : ByteArray)) ++ (t340.extract 8 11)) ++ (⟨#[32]⟩ : ByteArray)) ++ (t340.extract 5 7)) ++ (⟨#[32]⟩ : ByteArray)) ++ (t340.extract 17 25)) ++ (⟨#[32]⟩ : ByteArray)) ++ (t340.extract 12 16)) a0 t355 t356 _ A115.out).mono ?_
                                                                                      rintro e w126 ⟨rfl, hb⟩
                                                                                      refine ⟨_, rfl, ?_⟩
                                                                                      have n0_ := Aside0.mk (Kd.R_below (by (with_reducible repeat (first | apply Kd.R_alloc | apply Kd.R_drewN | apply Kd.R_drew)); exact HO_5.out) hb)
                                                                                      have n1_ := Aside0.mk (below_step (by repeat (first | (with_reducible first | exact HB.out | apply below_alloc | apply pw_below_drewN | apply below_drew1) | exact HB.out)) hb)
                                                                                      clear HO_5
                                                                                      clear HB
                                                                                      have HO_5 := n0_
                                                                                      have HB := n1_
                                                                                      clear n0_ n1_
                                                                                      (try clear hb)
                                                                                      (try clear hb2)
                                                                                      (try clear hk)
                                                                                      (try clear hi)
                                                                                      refine hK.out _ _ trivial (fun hHeld => ?_)
                                                                                      clear hK K
                                                                                      refine norm_ (a' := ?_) ?_ ?_
                                                                                      rotate_left
                                                                                      · show Act.put _ (some 105) _ = _
                                                                                        simp only [Act.put, List.setIfInBounds_toArray, List.set_cons_zero, List.set_cons_succ, i64_w, i32_w]
                                                                                        rfl
                                                                                      refine pure_ (i := 19) (N := some 86) (v := ?_) (a' := ?_) #[true, true, true, true, true, true, true, true, true, true, true, true, true, true, true, true, true, true, true, true, false, false, false, false] rfl rfl (any_of HT_.out (by kernel_rfl)) (fun _ _ _ h => h) (Or.inl ⟨by rfl, ?_⟩) ?_ ?_
                                                                                      rotate_left
                                                                                      · intro w'
                                                                                        go_simp
                                                                                        with_reducible rfl
                                                                                      rotate_left
                                                                                      · simp only [Act.put, List.setIfInBounds_toArray, List.set_cons_zero, List.set_cons_succ, i64_w, i32_w]
                                                                                        rfl
                                                                                      refine pure_ (i := 20) (N := some 106) (v := ?_) (a' := ?_) #[true, true, true, true, true, true, true, true, true, true, true, true, true, true, true, true, true, true, true, true, true, false, false, false] rfl rfl (any_of HT_.out (by kernel_rfl)) (fun _ _ _ h => h) (Or.inl ⟨by rfl, ?_⟩) ?_ ?_
                                                                                      rotate_left
                                                                                      · intro w'
                                                                                        go_simp
                                                                                        with_reducible rfl
                                                                                      rotate_left
                                                                                      · simp only [Act.put, List.setIfInBounds_toArray, List.set_cons_zero, List.set_cons_succ, i64_w, i32_w]
                                                                                        rfl
                                                                                      refine pure_ (i := 21) (N := some 107) (v := ?_) (a' := ?_) #[true, true, true, true, true, true, true, true, true, true, true, true, true, true, true, true, true, true, true, true, true, true, false, false] rfl rfl (any_of HT_.out (by kernel_rfl)) (fun _ _ _ h => h) (Or.inl ⟨by rfl, ?_⟩) ?_ ?_
                                                                                      rotate_left
                                                                                      · intro w'
                                                                                        go_simp
                                                                                        with_reducible rfl
                                                                                      rotate_left
                                                                                      · simp only [Act.put, List.setIfInBounds_toArray, List.set_cons_zero, List.set_cons_succ, i64_w, i32_w]
                                                                                        rfl
                                                                                      refine pure_ (i := 22) (N := some 11) (v := ?_) (a' := ?_) #[true, true, true, true, true, true, true, true, true, true, true, true, true, true, true, true, true, true, true, true, true, true, true, false] rfl rfl (any_of HT_.out (by kernel_rfl)) (fun _ _ _ h => h) (Or.inl ⟨by rfl, ?_⟩) ?_ ?_
                                                                                      rotate_left
                                                                                      · intro w'
                                                                                        go_simp
                                                                                        with_reducible rfl
                                                                                      rotate_left
                                                                                      · simp only [Act.put, List.setIfInBounds_toArray, List.set_cons_zero, List.set_cons_succ, i64_w, i32_w]
                                                                                        rfl
                                                                                      refine pure_ (i := 23) (N := some 12) (v := ?_) (a' := ?_) #[true, true, true, true, true, true, true, true, true, true, true, true, true, true, true, true, true, true, true, true, true, true, true, true] rfl rfl (any_of HT_.out (by kernel_rfl)) (fun _ _ _ h => h) (Or.inl ⟨by rfl, ?_⟩) ?_ ?_
                                                                                      rotate_left
                                                                                      · intro w'
                                                                                        go_simp
                                                                                        with_reducible rfl
                                                                                      rotate_left
                                                                                      · simp only [Act.put, List.setIfInBounds_toArray, List.set_cons_zero, List.set_cons_succ, i64_w, i32_w]
                                                                                        rfl
                                                                                      refine done_ (done_of HT_.out (by kernel_rfl)) ?_
                                                                                      try go_wp2_with (first | ((with_reducible refine gate_callee (f := 9) rfl ?_); refine goesL_ (some 108) rfl rfl Tryd.func9 (by kernel_rfl) rfl #[] rfl (by (try simp only [List.map_toArray, List.map_cons, List.map_nil]); first | done | rfl | (simp only [List.length_drop, List.length_take]; rfl)) ?_; (with_reducible refine (sprlaw15_first.calls k2  true _ A116.out).mono ?_); rintro e w127 ⟨rfl, hb⟩; refine ⟨_, rfl, ?_⟩; have n0_ := Aside0.mk (Kd.R_below (by (with_reducible repeat (first | apply Kd.R_alloc | apply Kd.R_drewN | apply Kd.R_drew)); exact HO_5.out) hb); have n1_ := Aside0.mk (below_step (by repeat (first | (with_reducible first | exact HB.out | apply below_alloc | apply pw_below_drewN | apply below_drew1) | exact HB.out)) hb); clear HO_5; clear HB; have HO_5 := n0_; have HB := n1_; clear n0_ n1_; (try clear hb); (try clear hb2); (try clear hk); (try clear hi)))
                                                                                      go_ret
                                                                                      exact ⟨by first | rfl | (simp [errW_none, errW_some] <;> rfl) | (simp [*, errW_none, errW_some] <;> rfl), by repeat (first | (with_reducible first | exact HB.out | apply below_alloc | apply pw_below_drewN | apply below_drew1) | exact HB.out)⟩
                                                                                    · rw [if_neg c121] at H
                                                                                      have c121b0 : (t353 == a0) = false := beq_eq_false_iff_ne.mpr c121
                                                                                      have c121b1 : (t353 != a0) = true := bne_iff_ne.mpr c121
                                                                                      exact absurd ((Option.some.inj H).trans hT.out) (by decide)
                                                                                  · rw [if_neg c120] at H
                                                                                    have c120b0 : (t356 == 0) = false := beq_eq_false_iff_ne.mpr c120
                                                                                    have c120b1 : (t356 != 0) = true := bne_iff_ne.mpr c120
                                                                                    exact absurd ((Option.some.inj H).trans hT.out) (by decide)
                                                                                · rw [if_neg c119] at H
                                                                                  have c119b0 : (t354 == 0) = false := beq_eq_false_iff_ne.mpr c119
                                                                                  have c119b1 : (t354 != 0) = true := bne_iff_ne.mpr c119
                                                                                  exact absurd ((Option.some.inj H).trans hT.out) (by decide)
                                                                            · replace c117 := Bool.eq_false_iff.mpr c117
                                                                              subst c117
                                                                              have H1 : (some false) = some r := by rw [if_neg (show ¬ (false = true) by decide)] at H; exact H
                                                                              clear H
                                                                              have H := H1
                                                                              clear H1
                                                                              exact absurd ((Option.some.inj H).trans hT.out) (by decide)
                                                                          · rw [if_neg c114] at H
                                                                            exact absurd H (by simp)
                                                                        · rw [if_neg c112] at H
                                                                          exact absurd H (by simp)
                                                                      · rw [if_neg c111] at H
                                                                        exact absurd H (by simp)
                                                                    · rw [if_neg c110] at H
                                                                      exact absurd H (by simp)
                                                                  · rw [if_neg c107] at H
                                                                    exact absurd H (by simp)
                                                                · rw [if_neg c106] at H
                                                                  exact absurd H (by simp)
                                                              · rw [if_neg c105] at H
                                                                exact absurd H (by simp)
                                                            · rw [if_neg c104] at H
                                                              exact absurd H (by simp)
                                                          · rw [if_neg c101] at H
                                                            exact absurd H (by simp)
                                                        · rw [if_neg c100] at H
                                                          exact absurd H (by simp)
                                                      · rw [if_neg c99] at H
                                                        exact absurd H (by simp)
                                                    · rw [if_neg c97] at H
                                                      exact absurd H (by simp)
                                                  · rw [if_neg c96] at H
                                                    exact absurd H (by simp)
                                                · rw [if_neg c95] at H
                                                  exact absurd H (by simp)
                                              · rw [if_neg c94] at H
                                                exact absurd H (by simp)
                                            · rw [if_neg c93] at H
                                              exact absurd H (by simp)
                                          · rw [if_neg c92] at H
                                            exact absurd H (by simp)
                                        · rw [if_neg c91] at H
                                          exact absurd H (by simp)
                                      · rw [if_neg c90] at H
                                        exact absurd H (by simp)
                                    · rw [if_neg c89] at H
                                      exact absurd H (by simp)
                                  · rw [if_neg c88] at H
                                    exact absurd H (by simp)
                                · rw [if_neg c87] at H
                                  exact absurd H (by simp)
                              · rw [if_neg c86] at H
                                exact absurd H (by simp)
                            · rw [if_neg c85] at H
                              exact absurd H (by simp)
                          · rw [if_neg c84] at H
                            exact absurd H (by simp)
                        · rw [if_neg c81] at H
                          exact absurd H (by simp)
                    · rw [if_neg c29] at H
                      exact absurd H (by simp)
                  · rw [if_neg c28] at H
                    exact absurd H (by simp)
                · rw [if_neg c27] at H
                  exact absurd H (by simp)
  · replace c3 := Bool.eq_false_iff.mpr c3
    subst c3
    have H1 : (some false) = some r := by rw [if_neg (show ¬ (false = true) by decide)] at H; exact H
    clear H
    have H := H1
    clear H1
    exact absurd ((Option.some.inj H).trans hT.out) (by decide)

/-- THE ONE PURE STATEMENT of sprlaw15_DateForms: yours. -/
def sprlaw15_DateForms.Pure : Prop := ∀ (a0 : Int), (Lit.int .i64 a0).wf = true → ∃ k, sprlaw15_DateForms.f k a0 = some true
theorem sprlaw15_DateForms.walk (P : sprlaw15_DateForms.Pure) (a0 : Int) (w : World) (hT0 : Lib.TabIs Tryd.prog w "internal/strconv.uint64pow10" .u64 Lib.pow10Tab) (w0 : (Lit.int .i64 a0).wf = true) :
    Calls Tryd.prog 6 #[.int .i64 a0] w fun e w' => e = .returned (.bool true) ∧ Below w.heap.size w w' := by
  obtain ⟨k, h⟩ := P a0 w0
  refine (sprlaw15_DateForms.calls k a0 true w h (Aside0.mk rfl) hT0).mono ?_
  rintro e w' ⟨rfl, hd⟩
  exact ⟨rfl, hd⟩

end Go.Proofs.YtnkmhgfhdgledaaDoor.R
