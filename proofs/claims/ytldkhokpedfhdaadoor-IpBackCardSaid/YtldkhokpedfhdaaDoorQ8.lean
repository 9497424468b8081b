-- Written by a program of this session's (wip/xprint.py), out of the seat's translation.
import Derived.Test.YtldkhokpedfhdaaDoorQ0
import Derived.Test.YtldkhokpedfhdaaDoorQ6
import Derived.Test.YtldkhokpedfhdaaDoorQ7
namespace Go.Proofs.YtldkhokpedfhdaaDoor.Q
open Go.RowKit Go.Proofs.YtldkhokpedfhdaaDoorW.PrintWords Go.Proofs.YtldkhokpedfhdaaDoorW.PrintLast Go.Proofs.YtldkhokpedfhdaaDoorW.PrintMore
attribute [local go_sem] max2_int min2_int max_two min_two max_three min_three max_four min_four   -- for this text's walks alone
set_option linter.unusedVariables false
set_option linter.unusedSimpArgs false

/-! ### sprref7_pieces: function 29 -/
mutual
def sprref7_pieces.l0 : Nat → Bool → List ByteArray → List Int → Int → Option (List Int × Bool)
  | 0, _, _, _, _ => none
  | k + 1, x1, x6, x7, x8 => if x8 < (x6.length : Int) then (if x1 = true then (if x8 = (wrap64 ((x6.length : Int) - 1)) then (if 0 ≤ x8 then ((sprref_Split.f k (rdOf ByteArray.empty x6 x8) 46).bind fun t250 => (sprref7_pieces.j1 k x1 x6 x7 x8 (decide ((t250.length : Int) > 1)))) else (none)) else (sprref7_pieces.j1 k x1 x6 x7 x8 false)) else (sprref7_pieces.j1 k x1 x6 x7 x8 false)) else (some (x7, true))
def sprref7_pieces.j1 : Nat → Bool → List ByteArray → List Int → Int → Bool → Option (List Int × Bool)
  | 0, _, _, _, _, _ => none
  | k + 1, x1, x6, x7, x8, x42 => if x42 = true then (if 0 ≤ x8 then (if x8 < (x6.length : Int) then ((sprref_Split.f k (rdOf ByteArray.empty x6 x8) 46).bind fun t254 => (if (t254.length : Int) = 4 then (sprref7_pieces.l1 k x1 x6 x7 x8 t254 ([] : List Int) 0) else (some (([] : List Int), false)))) else (none)) else (none)) else (if 0 ≤ x8 then (if x8 < (x6.length : Int) then (if (rdOf ByteArray.empty x6 x8).toList = ([] : List UInt8) then (sprref7_pieces.j4 k x1 x6 x7 x8 true) else (if ((rdOf ByteArray.empty x6 x8).size : Int) > 4 then (sprref7_pieces.j4 k x1 x6 x7 x8 true) else ((sprref7_digits.f k (rdOf ByteArray.empty x6 x8) 16).bind fun t282 => (sprref7_pieces.j4 k x1 x6 x7 x8 (!t282))))) else (none)) else (none))
def sprref7_pieces.l1 : Nat → Bool → List ByteArray → List Int → Int → List ByteArray → List Int → Int → Option (List Int × Bool)
  | 0, _, _, _, _, _, _, _ => none
  | k + 1, x1, x6, x7, x8, x9, x10, x11 => if x11 < 4 then (if 0 ≤ x11 then (if x11 < (x9.length : Int) then (if (rdOf ByteArray.empty x9 x11).toList = ([] : List UInt8) then (sprref7_pieces.j3 k x1 x6 x7 x8 x9 x10 x11 true) else (if ((rdOf ByteArray.empty x9 x11).size : Int) > 3 then (sprref7_pieces.j3 k x1 x6 x7 x8 x9 x10 x11 true) else ((sprref7_digits.f k (rdOf ByteArray.empty x9 x11) 10).bind fun t270 => (if t270 = true then (if ((rdOf ByteArray.empty x9 x11).size : Int) > 1 then (if 0 < ((rdOf ByteArray.empty x9 x11).size : Int) then (sprref7_pieces.j3 k x1 x6 x7 x8 x9 x10 x11 ((bt (rdOf ByteArray.empty x9 x11) 0) == 48)) else (none)) else (sprref7_pieces.j3 k x1 x6 x7 x8 x9 x10 x11 false)) else (sprref7_pieces.j3 k x1 x6 x7 x8 x9 x10 x11 true))))) else (none)) else (none)) else (if 0 < (x10.length : Int) then (if 1 < (x10.length : Int) then (if 2 < (x10.length : Int) then (if 3 < (x10.length : Int) then ((some (([Go.bits .or .i64 (wrap64 ((rd x10 0) * 256)) (rd x10 1), Go.bits .or .i64 (wrap64 ((rd x10 2) * 256)) (rd x10 3)] : List Int) : List Int)).bind fun y261 => (if x7.length + y261.length < 17592186044416 then (sprref7_pieces.l0 k x1 x6 (x7 ++ y261) (wrap64 (x8 + 1))) else (none))) else (none)) else (none)) else (none)) else (none))
def sprref7_pieces.j3 : Nat → Bool → List ByteArray → List Int → Int → List ByteArray → List Int → Int → Bool → Option (List Int × Bool)
  | 0, _, _, _, _, _, _, _, _ => none
  | k + 1, x1, x6, x7, x8, x9, x10, x11, x91 => if x91 = true then (some (([] : List Int), false)) else (if 0 ≤ x11 then (if x11 < (x9.length : Int) then ((sprref7_number.f k (rdOf ByteArray.empty x9 x11)).bind fun bt274 => (if bt274.1 > 255 then (some (([] : List Int), false)) else (if x10.length < 17592186044416 then (sprref7_pieces.l1 k x1 x6 x7 x8 x9 (x10 ++ [bt274.1]) (wrap64 (x11 + 1))) else (none)))) else (none)) else (none))
def sprref7_pieces.j4 : Nat → Bool → List ByteArray → List Int → Int → Bool → Option (List Int × Bool)
  | 0, _, _, _, _, _ => none
  | k + 1, x1, x6, x7, x8, x145 => if x145 = true then (some (([] : List Int), false)) else (sprref7_pieces.l2 k x1 x6 x7 x8 0 0)
def sprref7_pieces.l2 : Nat → Bool → List ByteArray → List Int → Int → Int → Int → Option (List Int × Bool)
  | 0, _, _, _, _, _, _ => none
  | k + 1, x1, x6, x7, x8, x14, x15 => if 0 ≤ x8 then (if x8 < (x6.length : Int) then (if x15 < ((rdOf ByteArray.empty x6 x8).size : Int) then (if 0 ≤ x15 then ((sprref1_Digit.f k (bt (rdOf ByteArray.empty x6 x8) x15)).bind fun t285 => (sprref7_pieces.l2 k x1 x6 x7 x8 (Go.bits .or .i64 (wrap64 (x14 * 16)) t285) (wrap64 (x15 + 1)))) else (none)) else (if x7.length < 17592186044416 then (sprref7_pieces.l0 k x1 x6 (x7 ++ [x14]) (wrap64 (x8 + 1))) else (none))) else (none)) else (none)
end
def sprref7_pieces.f (k : Nat) (a0 : ByteArray) (a1 : Bool) : Option (List Int × Bool) := if a0.toList = ([] : List UInt8) then (some (([] : List Int), true)) else ((sprref_Split.f k a0 58).bind fun t246 => (sprref7_pieces.l0 k a1 t246 ([] : List Int) 0))
theorem sprref7_pieces.mono_l : ∀ k, (∀ y0 y1 y2 y3, LeO (sprref7_pieces.l0 k y0 y1 y2 y3) (sprref7_pieces.l0 (k + 1) y0 y1 y2 y3)) ∧ (∀ y0 y1 y2 y3 y4, LeO (sprref7_pieces.j1 k y0 y1 y2 y3 y4) (sprref7_pieces.j1 (k + 1) y0 y1 y2 y3 y4)) ∧ (∀ y0 y1 y2 y3 y4 y5 y6, LeO (sprref7_pieces.l1 k y0 y1 y2 y3 y4 y5 y6) (sprref7_pieces.l1 (k + 1) y0 y1 y2 y3 y4 y5 y6)) ∧ (∀ y0 y1 y2 y3 y4 y5 y6 y7, LeO (sprref7_pieces.j3 k y0 y1 y2 y3 y4 y5 y6 y7) (sprref7_pieces.j3 (k + 1) y0 y1 y2 y3 y4 y5 y6 y7)) ∧ (∀ y0 y1 y2 y3 y4, LeO (sprref7_pieces.j4 k y0 y1 y2 y3 y4) (sprref7_pieces.j4 (k + 1) y0 y1 y2 y3 y4)) ∧ (∀ y0 y1 y2 y3 y4 y5, LeO (sprref7_pieces.l2 k y0 y1 y2 y3 y4 y5) (sprref7_pieces.l2 (k + 1) y0 y1 y2 y3 y4 y5))
  | 0 => ⟨fun _ _ _ _ r h => by simp [sprref7_pieces.l0] at h, fun _ _ _ _ _ r h => by simp [sprref7_pieces.j1] at h, fun _ _ _ _ _ _ _ r h => by simp [sprref7_pieces.l1] at h, fun _ _ _ _ _ _ _ _ r h => by simp [sprref7_pieces.j3] at h, fun _ _ _ _ _ r h => by simp [sprref7_pieces.j4] at h, fun _ _ _ _ _ _ r h => by simp [sprref7_pieces.l2] at h⟩
  | k + 1 => by
    obtain ⟨ih0, ih1, ih2, ih3, ih4, ih5⟩ := sprref7_pieces.mono_l k
    refine ⟨?_, ?_, ?_, ?_, ?_, ?_⟩
    · intro y0 y1 y2 y3
      unfold sprref7_pieces.l0
      repeat' first
      | (with_reducible exact ih0 _ _ _ _)
      | (with_reducible exact ih1 _ _ _ _ _)
      | (with_reducible exact ih2 _ _ _ _ _ _ _)
      | (with_reducible exact ih3 _ _ _ _ _ _ _ _)
      | (with_reducible exact ih4 _ _ _ _ _)
      | (with_reducible exact ih5 _ _ _ _ _ _)
      | (with_reducible exact sprref1_Digit.mono _ _)
      | (with_reducible exact sprref7_digits.mono _ _ _)
      | (with_reducible exact sprref7_number.mono _ _)
      | (with_reducible exact sprref_Split.mono _ _ _)
      | (with_reducible exact LeO.refl _)
      | (with_reducible exact LeO.none _)
      | (with_reducible refine LeO.ite ?_ ?_)
      | (with_reducible refine LeO.bind ?_ (fun _ => ?_))
      | exact ih0 _ _ _ _
      | exact ih1 _ _ _ _ _
      | exact ih2 _ _ _ _ _ _ _
      | exact ih3 _ _ _ _ _ _ _ _
      | exact ih4 _ _ _ _ _
      | exact ih5 _ _ _ _ _ _
      | exact sprref1_Digit.mono _ _
      | exact sprref7_digits.mono _ _ _
      | exact sprref7_number.mono _ _
      | exact sprref_Split.mono _ _ _
      | exact LeO.none _
      | refine LeO.ite ?_ ?_
      | refine LeO.bind ?_ (fun _ => ?_)
    · intro y0 y1 y2 y3 y4
      unfold sprref7_pieces.j1
      repeat' first
      | (with_reducible exact ih0 _ _ _ _)
      | (with_reducible exact ih1 _ _ _ _ _)
      | (with_reducible exact ih2 _ _ _ _ _ _ _)
      | (with_reducible exact ih3 _ _ _ _ _ _ _ _)
      | (with_reducible exact ih4 _ _ _ _ _)
      | (with_reducible exact ih5 _ _ _ _ _ _)
      | (with_reducible exact sprref1_Digit.mono _ _)
      | (with_reducible exact sprref7_digits.mono _ _ _)
      | (with_reducible exact sprref7_number.mono _ _)
      | (with_reducible exact sprref_Split.mono _ _ _)
      | (with_reducible exact LeO.refl _)
      | (with_reducible exact LeO.none _)
      | (with_reducible refine LeO.ite ?_ ?_)
      | (with_reducible refine LeO.bind ?_ (fun _ => ?_))
      | exact ih0 _ _ _ _
      | exact ih1 _ _ _ _ _
      | exact ih2 _ _ _ _ _ _ _
      | exact ih3 _ _ _ _ _ _ _ _
      | exact ih4 _ _ _ _ _
      | exact ih5 _ _ _ _ _ _
      | exact sprref1_Digit.mono _ _
      | exact sprref7_digits.mono _ _ _
      | exact sprref7_number.mono _ _
      | exact sprref_Split.mono _ _ _
      | exact LeO.none _
      | refine LeO.ite ?_ ?_
      | refine LeO.bind ?_ (fun _ => ?_)
    · intro y0 y1 y2 y3 y4 y5 y6
      unfold sprref7_pieces.l1
      repeat' first
      | (with_reducible exact ih0 _ _ _ _)
      | (with_reducible exact ih1 _ _ _ _ _)
      | (with_reducible exact ih2 _ _ _ _ _ _ _)
      | (with_reducible exact ih3 _ _ _ _ _ _ _ _)
      | (with_reducible exact ih4 _ _ _ _ _)
      | (with_reducible exact ih5 _ _ _ _ _ _)
      | (with_reducible exact sprref1_Digit.mono _ _)
      | (with_reducible exact sprref7_digits.mono _ _ _)
      | (with_reducible exact sprref7_number.mono _ _)
      | (with_reducible exact sprref_Split.mono _ _ _)
      | (with_reducible exact LeO.refl _)
      | (with_reducible exact LeO.none _)
      | (with_reducible refine LeO.ite ?_ ?_)
      | (with_reducible refine LeO.bind ?_ (fun _ => ?_))
      | exact ih0 _ _ _ _
      | exact ih1 _ _ _ _ _
      | exact ih2 _ _ _ _ _ _ _
      | exact ih3 _ _ _ _ _ _ _ _
      | exact ih4 _ _ _ _ _
      | exact ih5 _ _ _ _ _ _
      | exact sprref1_Digit.mono _ _
      | exact sprref7_digits.mono _ _ _
      | exact sprref7_number.mono _ _
      | exact sprref_Split.mono _ _ _
      | exact LeO.none _
      | refine LeO.ite ?_ ?_
      | refine LeO.bind ?_ (fun _ => ?_)
    · intro y0 y1 y2 y3 y4 y5 y6 y7
      unfold sprref7_pieces.j3
      repeat' first
      | (with_reducible exact ih0 _ _ _ _)
      | (with_reducible exact ih1 _ _ _ _ _)
      | (with_reducible exact ih2 _ _ _ _ _ _ _)
      | (with_reducible exact ih3 _ _ _ _ _ _ _ _)
      | (with_reducible exact ih4 _ _ _ _ _)
      | (with_reducible exact ih5 _ _ _ _ _ _)
      | (with_reducible exact sprref1_Digit.mono _ _)
      | (with_reducible exact sprref7_digits.mono _ _ _)
      | (with_reducible exact sprref7_number.mono _ _)
      | (with_reducible exact sprref_Split.mono _ _ _)
      | (with_reducible exact LeO.refl _)
      | (with_reducible exact LeO.none _)
      | (with_reducible refine LeO.ite ?_ ?_)
      | (with_reducible refine LeO.bind ?_ (fun _ => ?_))
      | exact ih0 _ _ _ _
      | exact ih1 _ _ _ _ _
      | exact ih2 _ _ _ _ _ _ _
      | exact ih3 _ _ _ _ _ _ _ _
      | exact ih4 _ _ _ _ _
      | exact ih5 _ _ _ _ _ _
      | exact sprref1_Digit.mono _ _
      | exact sprref7_digits.mono _ _ _
      | exact sprref7_number.mono _ _
      | exact sprref_Split.mono _ _ _
      | exact LeO.none _
      | refine LeO.ite ?_ ?_
      | refine LeO.bind ?_ (fun _ => ?_)
    · intro y0 y1 y2 y3 y4
      unfold sprref7_pieces.j4
      repeat' first
      | (with_reducible exact ih0 _ _ _ _)
      | (with_reducible exact ih1 _ _ _ _ _)
      | (with_reducible exact ih2 _ _ _ _ _ _ _)
      | (with_reducible exact ih3 _ _ _ _ _ _ _ _)
      | (with_reducible exact ih4 _ _ _ _ _)
      | (with_reducible exact ih5 _ _ _ _ _ _)
      | (with_reducible exact sprref1_Digit.mono _ _)
      | (with_reducible exact sprref7_digits.mono _ _ _)
      | (with_reducible exact sprref7_number.mono _ _)
      | (with_reducible exact sprref_Split.mono _ _ _)
      | (with_reducible exact LeO.refl _)
      | (with_reducible exact LeO.none _)
      | (with_reducible refine LeO.ite ?_ ?_)
      | (with_reducible refine LeO.bind ?_ (fun _ => ?_))
      | exact ih0 _ _ _ _
      | exact ih1 _ _ _ _ _
      | exact ih2 _ _ _ _ _ _ _
      | exact ih3 _ _ _ _ _ _ _ _
      | exact ih4 _ _ _ _ _
      | exact ih5 _ _ _ _ _ _
      | exact sprref1_Digit.mono _ _
      | exact sprref7_digits.mono _ _ _
      | exact sprref7_number.mono _ _
      | exact sprref_Split.mono _ _ _
      | exact LeO.none _
      | refine LeO.ite ?_ ?_
      | refine LeO.bind ?_ (fun _ => ?_)
    · intro y0 y1 y2 y3 y4 y5
      unfold sprref7_pieces.l2
      repeat' first
      | (with_reducible exact ih0 _ _ _ _)
      | (with_reducible exact ih1 _ _ _ _ _)
      | (with_reducible exact ih2 _ _ _ _ _ _ _)
      | (with_reducible exact ih3 _ _ _ _ _ _ _ _)
      | (with_reducible exact ih4 _ _ _ _ _)
      | (with_reducible exact ih5 _ _ _ _ _ _)
      | (with_reducible exact sprref1_Digit.mono _ _)
      | (with_reducible exact sprref7_digits.mono _ _ _)
      | (with_reducible exact sprref7_number.mono _ _)
      | (with_reducible exact sprref_Split.mono _ _ _)
      | (with_reducible exact LeO.refl _)
      | (with_reducible exact LeO.none _)
      | (with_reducible refine LeO.ite ?_ ?_)
      | (with_reducible refine LeO.bind ?_ (fun _ => ?_))
      | exact ih0 _ _ _ _
      | exact ih1 _ _ _ _ _
      | exact ih2 _ _ _ _ _ _ _
      | exact ih3 _ _ _ _ _ _ _ _
      | exact ih4 _ _ _ _ _
      | exact ih5 _ _ _ _ _ _
      | exact sprref1_Digit.mono _ _
      | exact sprref7_digits.mono _ _ _
      | exact sprref7_number.mono _ _
      | exact sprref_Split.mono _ _ _
      | exact LeO.none _
      | refine LeO.ite ?_ ?_
      | refine LeO.bind ?_ (fun _ => ?_)
theorem sprref7_pieces.mono : ∀ a0 a1 k, LeO (sprref7_pieces.f k a0 a1) (sprref7_pieces.f (k + 1) a0 a1) := by
  intro a0 a1 k
  obtain ⟨ih0, ih1, ih2, ih3, ih4, ih5⟩ := sprref7_pieces.mono_l k
  unfold sprref7_pieces.f
  repeat' first
      | (with_reducible exact ih0 _ _ _ _)
      | (with_reducible exact ih1 _ _ _ _ _)
      | (with_reducible exact ih2 _ _ _ _ _ _ _)
      | (with_reducible exact ih3 _ _ _ _ _ _ _ _)
      | (with_reducible exact ih4 _ _ _ _ _)
      | (with_reducible exact ih5 _ _ _ _ _ _)
      | (with_reducible exact sprref1_Digit.mono _ _)
      | (with_reducible exact sprref7_digits.mono _ _ _)
      | (with_reducible exact sprref7_number.mono _ _)
      | (with_reducible exact sprref_Split.mono _ _ _)
      | (with_reducible exact LeO.refl _)
      | (with_reducible exact LeO.none _)
      | (with_reducible refine LeO.ite ?_ ?_)
      | (with_reducible refine LeO.bind ?_ (fun _ => ?_))
      | exact ih0 _ _ _ _
      | exact ih1 _ _ _ _ _
      | exact ih2 _ _ _ _ _ _ _
      | exact ih3 _ _ _ _ _ _ _ _
      | exact ih4 _ _ _ _ _
      | exact ih5 _ _ _ _ _ _
      | exact sprref1_Digit.mono _ _
      | exact sprref7_digits.mono _ _ _
      | exact sprref7_number.mono _ _
      | exact sprref_Split.mono _ _ _
      | exact LeO.none _
      | refine LeO.ite ?_ ?_
      | refine LeO.bind ?_ (fun _ => ?_)
def sprref7_pieces.T22 : Bool × List (List Nat × List Nat) := (true, [([], []), ([], []), ([1], [1]), ([2], [2]), ([3], [3]), ([], []), ([5], [5]), ([6], [6]), ([4, 7], [4, 7]), ([], []), ([9], [9]), ([10], [10]), ([11], [11]), ([], []), ([13], [13]), ([14], [14]), ([12, 15], [12, 15]), ([8, 16], [8, 16]), ([0, 17], [0, 17]), ([18, 18, 0, 1, 2, 3, 4, 5, 6, 7, 8, 9, 10, 11, 12, 13, 14, 15, 16, 17, 18], [0, 18])])
def sprref7_pieces.B22 : List Nat := [0, 0, 2, 6, 14, 0, 32, 96, 254, 0, 512, 1536, 3584, 0, 8192, 24576, 65024, 131070, 262143, 524287]
theorem sprref7_pieces.tab22 : rtab .any (opsOf Tryd.f29 22) = sprref7_pieces.T22 := by kernel_rfl
theorem sprref7_pieces.bits22 : waitsOk sprref7_pieces.T22.2 sprref7_pieces.B22 = true := by kernel_rfl
set_option maxHeartbeats 2000000 in
set_option maxRecDepth 100000 in
theorem sprref7_pieces.calls (k : Nat) (a0 : ByteArray) (a1 : Bool) (r1 : List Int) (r2 : Bool) (w : World) (h : sprref7_pieces.f k a0 a1 = some (r1, r2)) :
    Calls Tryd.prog 29 #[.string a0, .bool a1] w fun e w' => ∃ v0_ : Value, e = .returned (.tuple #[v0_, .bool r2]) ∧ Kd.R (Kd.int .i64) 3 w' w.heap.size (fun _ => True) v0_ r1 ∧ Below w.heap.size w w' := by
  have HB := Aside0.mk (Below.refl w.heap.size w)
  have H : (if a0.toList = ([] : List UInt8) then (some (([] : List Int), true)) else ((sprref_Split.f k a0 58).bind fun t246 => (sprref7_pieces.l0 k a1 t246 ([] : List Int) 0))) = some (r1, r2) := h
  clear h
  by_cases c3 : a0.toList = ([] : List UInt8)
  · rw [if_pos c3] at H
    have c3b0 : (a0.toList == ([] : List UInt8)) = true := beq_iff_eq.mpr c3
    have c3b1 : (a0.toList != ([] : List UInt8)) = false := bne_eq_false_iff_eq.mpr c3
    clear c3
    simp only [Option.some.injEq, Prod.mk.injEq] at H
    obtain ⟨rfl, rfl⟩ := H
    go_enter Tryd.func29, Tryd.ntmps29
    go_wp2
    go_ret2
    exact ⟨_, by first | rfl | (simp [errW_none, errW_some] <;> rfl) | (simp [*, errW_none, errW_some] <;> rfl), by first | exact Kd.R_nil _ _ _ _ _ | exact Kd.N_nil _ _ _ _ _ | exact Kd.V_nil _ _ _ _ _ | exact Kd.Q_nil _ _ _ _ _ | exact Kd.S_nil _ _ _ _ _, by repeat (first | (with_reducible first | exact HB.out | apply below_alloc | apply pw_below_drewN | apply below_drew1) | exact HB.out)⟩
  · rw [if_neg c3] at H
    have c3b0 : (a0.toList == ([] : List UInt8)) = false := beq_eq_false_iff_ne.mpr c3
    have c3b1 : (a0.toList != ([] : List UInt8)) = true := bne_iff_ne.mpr c3
    replace H := Option.bind_eq_some_iff.mp H
    obtain ⟨t246, A40, H⟩ := H
    replace H : (sprref7_pieces.l0 k a1 t246 ([] : List Int) 0) = some (r1, r2) := H
    have A4 := Aside0.mk A40
    clear A40
    have H' := Aside0.mk H
    clear H
    go_enter Tryd.func29, Tryd.ntmps29
    go_wp2_with (first | ((with_reducible refine gate_callee (f := 43) rfl ?_); refine goesL_ (some 19) rfl rfl Tryd.func43 (by kernel_rfl) rfl #[.string a0, .int .u8 58] rfl (by (try simp only [List.map_toArray, List.map_cons, List.map_nil]); first | done | rfl | (simp only [List.length_drop, List.length_take]; rfl)) ?_; (with_reducible refine (sprref_Split.calls k a0 58 t246 _ A4.out).mono ?_); rintro e w5 ⟨v247, rfl, ho0, hb⟩; refine ⟨_, rfl, ?_⟩; have n0_ := Aside0.mk (Kd.R_lower ho0 (below_size (by repeat (first | (with_reducible first | exact HB.out | apply below_alloc | apply pw_below_drewN | apply below_drew1) | exact HB.out)))); have n1_ := Aside0.mk (below_step (by repeat (first | (with_reducible first | exact HB.out | apply below_alloc | apply pw_below_drewN | apply below_drew1) | exact HB.out)) hb); clear HB; have HO248 := n0_; have HB := n1_; clear n0_ n1_; (try clear hb); (try clear hb2); (try clear hk); (try clear hi); (try clear ho0)))
    go_loopg [7, 8] k (fun kq v7 v8 w' => ∃ (x7_1 : List Int) (x8_1 : Int), v8 = .int .i64 x8_1 ∧ Aside0 (sprref7_pieces.l0 kq a1 t246 x7_1 x8_1 = some (r1, r2)) ∧ Aside0 (kq ≤ k) ∧ Aside0 (Kd.R Kd.string 9 w' w.heap.size (fun _ => True) v247 t246) ∧ Aside0 (Kd.R (Kd.int .i64) 3 w' w.heap.size (fun _ => True) v7 x7_1) ∧ Aside0 (Below w.heap.size w w'))
    case atStart => exact ⟨(([] : List Int)), (0), (by first | rfl | (simp; done) | (simp [*]; done)), H', ⟨Nat.le_refl _⟩, ⟨by (with_reducible repeat (first | apply Kd.R_alloc | apply Kd.R_drewN | apply Kd.R_drew)); exact HO248.out⟩, ⟨by first | exact Kd.R_nil _ _ _ _ _ | exact Kd.N_nil _ _ _ _ _ | exact Kd.V_nil _ _ _ _ _ | exact Kd.Q_nil _ _ _ _ _ | exact Kd.S_nil _ _ _ _ _⟩, ⟨by repeat (first | (with_reducible first | exact HB.out | apply below_alloc | apply pw_below_drewN | apply below_drew1) | exact HB.out)⟩⟩
    case round =>
      clear H'
      try clear c2
      try clear p2
      try clear c3
      try clear c3b0
      try clear c3b1
      try clear c4
      obtain ⟨x7_1, x8_1, rfl, HA, HK1, HO_6, HO_7, HB⟩ := hrel
      cases gk with
      | zero => exact absurd HA.out (by simp [sprref7_pieces.l0])
      | succ k1 =>
        have H := HA.out
        clear HA
        simp only [sprref7_pieces.l0] at H
        by_cases c6 : x8_1 < (t246.length : Int)
        · rw [if_pos c6] at H
          have c6b0 : decide (x8_1 < (t246.length : Int)) = true := decide_eq_true c6
          clear c6
          have HC7 := Aside0.mk H
          clear H
          obtain ⟨Ao8, co8, eo8⟩ := Kd.R_slice HO_6.out
          subst eo8
          go_upto_region 8 with (fail)
          go_cut [42] (fun v42 wc => ∃ (kq : Nat) (x42_6 : Bool), v42 = .bool x42_6 ∧ Aside0 (sprref7_pieces.j1 kq a1 t246 x7_1 x8_1 x42_6 = some (r1, r2)) ∧ Aside0 (kq ≤ k1) ∧ Aside0 (Kd.R Kd.string 9 wc w.heap.size (fun _ => True) (.slice Ao8 t246.length co8) t246) ∧ Aside0 (Kd.R (Kd.int .i64) 3 wc w.heap.size (fun _ => True) u7 x7_1) ∧ Aside0 (Below w.heap.size w wc))
          case first =>
            have H := HC7.out
            clear HC7
            by_cases c9 : a1 = true
            · subst c9
              have H1 : (if x8_1 = (wrap64 ((t246.length : Int) - 1)) then (if 0 ≤ x8_1 then ((sprref_Split.f k1 (rdOf ByteArray.empty t246 x8_1) 46).bind fun t250 => (sprref7_pieces.j1 k1 true t246 x7_1 x8_1 (decide ((t250.length : Int) > 1)))) else (none)) else (sprref7_pieces.j1 k1 true t246 x7_1 x8_1 false)) = some (r1, r2) := by rw [if_pos rfl] at H; exact H
              clear H
              have H := H1
              clear H1
              by_cases c10 : x8_1 = (wrap64 ((t246.length : Int) - 1))
              · rw [if_pos c10] at H
                have c10b0 : (x8_1 == (wrap64 ((t246.length : Int) - 1))) = true := beq_iff_eq.mpr c10
                have c10b1 : (x8_1 != (wrap64 ((t246.length : Int) - 1))) = false := bne_eq_false_iff_eq.mpr c10
                clear c10
                (first | rw [c10b0] | (simp only [i64_w, i32_w]; rw [c10b0]) | skip)
                by_cases c11 : 0 ≤ x8_1
                · rw [if_pos c11] at H
                  have c11b0 : decide (0 ≤ x8_1) = true := decide_eq_true c11
                  clear c11
                  replace H := Option.bind_eq_some_iff.mp H
                  obtain ⟨t250, A120, H⟩ := H
                  replace H : (sprref7_pieces.j1 k1 true t246 x7_1 x8_1 (decide ((t250.length : Int) > 1))) = some (r1, r2) := H
                  have A12 := Aside0.mk A120
                  clear A120
                  have H' := Aside0.mk H
                  clear H
                  have p249 : 0 ≤ (x8_1 : Int) := of_decide_eq_true (by first | (with_reducible assumption) | assumption)
                  have q249 : x8_1 < (t246.length : Int) := of_decide_eq_true (by first | (with_reducible assumption) | assumption)
                  obtain ⟨ad249, e249, hx249_0⟩ := Kd.at_string (Kd.R_reads' HO_6.out).2.2 x8_1 p249 q249
                  cases e249
                  replace p249 := eq_true p249
                  replace q249 := eq_true q249
                  go_wp2_with (first | (go_at_call 43; (with_reducible refine (sprref_Split.calls k1 (rdOf ByteArray.empty t246 x8_1) 46 t250 _ A12.out).mono ?_); rintro e w13 ⟨v251, rfl, ho0, hb⟩; have n0_ := Aside0.mk (Kd.R_elder' (by (with_reducible repeat (first | apply Kd.R_alloc | apply Kd.R_drewN | apply Kd.R_drew)); exact HO_6.out) (Kd.R_base ho0) hb); have n1_ := Aside0.mk (Kd.R_below (by (with_reducible repeat (first | apply Kd.R_alloc | apply Kd.R_drewN | apply Kd.R_drew)); exact HO_7.out) hb); have n2_ := Aside0.mk (Kd.R_lower (Kd.R_new' ho0 (Kd.R_lt (by (with_reducible repeat (first | apply Kd.R_alloc | apply Kd.R_drewN | apply Kd.R_drew)); exact HO_6.out))) (below_size (by repeat (first | (with_reducible first | exact HB.out | apply below_alloc | apply pw_below_drewN | apply below_drew1) | exact HB.out)))); have n3_ := Aside0.mk (below_step (by repeat (first | (with_reducible first | exact HB.out | apply below_alloc | apply pw_below_drewN | apply below_drew1) | exact HB.out)) hb); clear HO_6; clear HO_7; clear HB; have HO_6 := n0_; have HO_7 := n1_; have HO252 := n2_; have HB := n3_; clear n0_ n1_ n2_ n3_; (try clear hb); (try clear hb2); (try clear hk); (try clear hi); (try clear ho0); obtain ⟨Ao14, co14, eo14⟩ := Kd.R_slice HO252.out; subst eo14))
                  go_meet
                  case rel => exact ⟨_, (decide ((t250.length : Int) > 1)), (by first | rfl | (simp; done) | (simp [*]; done)), H', ⟨by have := HK1.out; first | omega | exact Nat.le_refl _⟩, ⟨by (with_reducible repeat (first | apply Kd.R_alloc | apply Kd.R_drewN | apply Kd.R_drew)); exact Kd.R_mono HO_6.out (fun _ hk => trivial)⟩, ⟨by (with_reducible repeat (first | apply Kd.R_alloc | apply Kd.R_drewN | apply Kd.R_drew)); exact HO_7.out⟩, ⟨by repeat (first | (with_reducible first | exact HB.out | apply below_alloc | apply pw_below_drewN | apply below_drew1) | exact HB.out)⟩⟩
                · rw [if_neg c11] at H
                  exact absurd H (by simp)
              · rw [if_neg c10] at H
                have c10b0 : (x8_1 == (wrap64 ((t246.length : Int) - 1))) = false := beq_eq_false_iff_ne.mpr c10
                have c10b1 : (x8_1 != (wrap64 ((t246.length : Int) - 1))) = true := bne_iff_ne.mpr c10
                (first | rw [c10b0] | (simp only [i64_w, i32_w]; rw [c10b0]) | skip)
                have H' := Aside0.mk H
                clear H
                go_wp2
                go_meet
                case rel => exact ⟨_, (false), (by first | rfl | (simp; done) | (simp [*]; done)), H', ⟨by have := HK1.out; first | omega | exact Nat.le_refl _⟩, ⟨by (with_reducible repeat (first | apply Kd.R_alloc | apply Kd.R_drewN | apply Kd.R_drew)); exact HO_6.out⟩, ⟨by (with_reducible repeat (first | apply Kd.R_alloc | apply Kd.R_drewN | apply Kd.R_drew)); exact HO_7.out⟩, ⟨by repeat (first | (with_reducible first | exact HB.out | apply below_alloc | apply pw_below_drewN | apply below_drew1) | exact HB.out)⟩⟩
            · replace c9 := Bool.eq_false_iff.mpr c9
              subst c9
              have H1 : (sprref7_pieces.j1 k1 false t246 x7_1 x8_1 false) = some (r1, r2) := by rw [if_neg (show ¬ (false = true) by decide)] at H; exact H
              clear H
              have H := H1
              clear H1
              have H' := Aside0.mk H
              clear H
              go_wp2
              go_meet
              case rel => exact ⟨_, (false), (by first | rfl | (simp; done) | (simp [*]; done)), H', ⟨by have := HK1.out; first | omega | exact Nat.le_refl _⟩, ⟨by (with_reducible repeat (first | apply Kd.R_alloc | apply Kd.R_drewN | apply Kd.R_drew)); exact HO_6.out⟩, ⟨by (with_reducible repeat (first | apply Kd.R_alloc | apply Kd.R_drewN | apply Kd.R_drew)); exact HO_7.out⟩, ⟨by repeat (first | (with_reducible first | exact HB.out | apply below_alloc | apply pw_below_drewN | apply below_drew1) | exact HB.out)⟩⟩
          case rest =>
            clear HC7
            try clear c1
            try clear c2
            try clear p2
            try clear q2
            try clear hx2
            try clear c3
            try clear c3b0
            try clear c3b1
            try clear c4
            try clear c6
            try clear c6b0
            try clear p6
            try clear c9
            try clear c10
            try clear c10b0
            try clear c10b1
            try clear c11
            try clear c11b0
            try clear hx249_0
            try clear p2
            try clear p249
            try clear q249
            obtain ⟨kq, x42_6, rfl, HA, HJ6, HO_6, HO_7, HB⟩ := hcut
            cases kq with
            | zero => exact absurd HA.out (by simp [sprref7_pieces.j1])
            | succ kj6 =>
              have H := HA.out
              clear HA
              simp only [sprref7_pieces.j1] at H
              by_cases c15 : x42_6 = true
              · subst c15
                have H1 : (if 0 ≤ x8_1 then (if x8_1 < (t246.length : Int) then ((sprref_Split.f kj6 (rdOf ByteArray.empty t246 x8_1) 46).bind fun t254 => (if (t254.length : Int) = 4 then (sprref7_pieces.l1 kj6 a1 t246 x7_1 x8_1 t254 ([] : List Int) 0) else (some (([] : List Int), false)))) else (none)) else (none)) = some (r1, r2) := by rw [if_pos rfl] at H; exact H
                clear H
                have H := H1
                clear H1
                by_cases c16 : 0 ≤ x8_1
                · rw [if_pos c16] at H
                  have c16b0 : decide (0 ≤ x8_1) = true := decide_eq_true c16
                  clear c16
                  by_cases c17 : x8_1 < (t246.length : Int)
                  · rw [if_pos c17] at H
                    have c17b0 : decide (x8_1 < (t246.length : Int)) = true := decide_eq_true c17
                    clear c17
                    replace H := Option.bind_eq_some_iff.mp H
                    obtain ⟨t254, A180, H⟩ := H
                    replace H : (if (t254.length : Int) = 4 then (sprref7_pieces.l1 kj6 a1 t246 x7_1 x8_1 t254 ([] : List Int) 0) else (some (([] : List Int), false))) = some (r1, r2) := H
                    have A18 := Aside0.mk A180
                    clear A180
                    by_cases c19 : (t254.length : Int) = 4
                    · rw [if_pos c19] at H
                      have c19b0 : ((t254.length : Int) == 4) = true := beq_iff_eq.mpr c19
                      have c19b1 : ((t254.length : Int) != 4) = false := bne_eq_false_iff_eq.mpr c19
                      clear c19
                      have H' := Aside0.mk H
                      clear H
                      have p253 : 0 ≤ (x8_1 : Int) := of_decide_eq_true (by first | (with_reducible assumption) | assumption)
                      have q253 : x8_1 < (t246.length : Int) := of_decide_eq_true (by first | (with_reducible assumption) | assumption)
                      obtain ⟨ad253, e253, hx253_0⟩ := Kd.at_string (Kd.R_reads' HO_6.out).2.2 x8_1 p253 q253
                      cases e253
                      replace p253 := eq_true p253
                      replace q253 := eq_true q253
                      go_wp2_with (first | ((with_reducible refine gate_callee (f := 43) rfl ?_); refine goesL_ (some 47) rfl rfl Tryd.func43 (by kernel_rfl) rfl #[.string (rdOf ByteArray.empty t246 x8_1), .int .u8 46] rfl (by (try simp only [List.map_toArray, List.map_cons, List.map_nil]); first | done | rfl | (simp only [List.length_drop, List.length_take]; rfl)) ?_; (with_reducible refine (sprref_Split.calls kj6 (rdOf ByteArray.empty t246 x8_1) 46 t254 _ A18.out).mono ?_); rintro e w20 ⟨v255, rfl, ho0, hb⟩; refine ⟨_, rfl, ?_⟩; have n0_ := Aside0.mk (Kd.R_elder' (by (with_reducible repeat (first | apply Kd.R_alloc | apply Kd.R_drewN | apply Kd.R_drew)); exact HO_6.out) (Kd.R_base ho0) hb); have n1_ := Aside0.mk (Kd.R_below (by (with_reducible repeat (first | apply Kd.R_alloc | apply Kd.R_drewN | apply Kd.R_drew)); exact HO_7.out) hb); have n2_ := Aside0.mk (Kd.R_lower (Kd.R_new' ho0 (Kd.R_lt (by (with_reducible repeat (first | apply Kd.R_alloc | apply Kd.R_drewN | apply Kd.R_drew)); exact HO_6.out))) (below_size (by repeat (first | (with_reducible first | exact HB.out | apply below_alloc | apply pw_below_drewN | apply below_drew1) | exact HB.out)))); have n3_ := Aside0.mk (below_step (by repeat (first | (with_reducible first | exact HB.out | apply below_alloc | apply pw_below_drewN | apply below_drew1) | exact HB.out)) hb); clear HO_6; clear HO_7; clear HB; have HO_6 := n0_; have HO_7 := n1_; have HO256 := n2_; have HB := n3_; clear n0_ n1_ n2_ n3_; (try clear hb); (try clear hb2); (try clear hk); (try clear hi); (try clear ho0); obtain ⟨Ao21, co21, eo21⟩ := Kd.R_slice HO256.out; subst eo21))
                      go_loopg [10, 11] kj6 (fun kq v10 v11 w' => ∃ (x10_3 : List Int) (x11_3 : Int), v11 = .int .i64 x11_3 ∧ Aside0 (sprref7_pieces.l1 kq a1 t246 x7_1 x8_1 t254 x10_3 x11_3 = some (r1, r2)) ∧ Aside0 (kq ≤ kj6) ∧ Aside0 (Kd.R Kd.string 9 w' w.heap.size (fun k_ => some k_ ≠ ((.slice Ao21 t254.length co21) : Value).ownBlock) (.slice (some ad253) t246.length co8) t246) ∧ Aside0 (Kd.R (Kd.int .i64) 3 w' w.heap.size (fun k_ => some k_ ≠ (v10 : Value).ownBlock) u7 x7_1) ∧ Aside0 (Kd.R Kd.string 9 w' w.heap.size (fun k_ => some k_ ≠ ((.slice (some ad253) t246.length co8) : Value).ownBlock) (.slice Ao21 t254.length co21) t254) ∧ Aside0 (Kd.R (Kd.int .i64) 3 w' w.heap.size (fun k_ => some k_ ≠ (u7 : Value).ownBlock) v10 x10_3) ∧ Aside0 (Below w.heap.size w w'))
                      case atStart => exact ⟨(([] : List Int)), (0), (by first | rfl | (simp; done) | (simp [*]; done)), H', ⟨Nat.le_refl _⟩, ⟨by (with_reducible repeat (first | apply Kd.R_alloc | apply Kd.R_drewN | apply Kd.R_drew)); exact Kd.R_mono HO_6.out (fun _ hk => hk.2)⟩, ⟨by (with_reducible repeat (first | apply Kd.R_alloc | apply Kd.R_drewN | apply Kd.R_drew)); exact Kd.R_mono HO_7.out (fun _ hk => (by simp [Value.ownBlock]))⟩, ⟨by (with_reducible repeat (first | apply Kd.R_alloc | apply Kd.R_drewN | apply Kd.R_drew)); exact Kd.R_mono HO256.out (fun _ hk => hk.2)⟩, ⟨by first | exact Kd.R_nil _ _ _ _ _ | exact Kd.N_nil _ _ _ _ _ | exact Kd.V_nil _ _ _ _ _ | exact Kd.Q_nil _ _ _ _ _ | exact Kd.S_nil _ _ _ _ _⟩, ⟨by repeat (first | (with_reducible first | exact HB.out | apply below_alloc | apply pw_below_drewN | apply below_drew1) | exact HB.out)⟩⟩
                      case round =>
                        clear H'
                        try clear c1
                        try clear c2
                        try clear p2
                        try clear q2
                        try clear hx2
                        try clear c3
                        try clear c3b0
                        try clear c3b1
                        try clear c4
                        try clear c6
                        try clear c6b0
                        try clear p6
                        try clear c9
                        try clear c10
                        try clear c10b0
                        try clear c10b1
                        try clear c11
                        try clear c11b0
                        try clear c15
                        try clear c16
                        try clear c16b0
                        try clear c17
                        try clear c17b0
                        try clear c19
                        try clear c19b0
                        try clear c19b1
                        try clear hx249_0
                        try clear hx253_0
                        try clear p2
                        try clear p249
                        try clear p253
                        try clear p6
                        try clear q2
                        try clear q249
                        try clear q253
                        obtain ⟨x10_3, x11_3, rfl, HA, HK3, HO_6, HO_7, HO_9, HO_10, HB⟩ := hrel
                        cases gk with
                        | zero => exact absurd HA.out (by simp [sprref7_pieces.l1])
                        | succ k3 =>
                          have H := HA.out
                          clear HA
                          simp only [sprref7_pieces.l1] at H
                          by_cases c22 : x11_3 < 4
                          · rw [if_pos c22] at H
                            have c22b0 : decide (x11_3 < 4) = true := decide_eq_true c22
                            clear c22
                            have HC23 := Aside0.mk H
                            clear H
                            go_upto_region 16 with (fail)
                            go_cut [91] (fun v91 wc => ∃ (kq : Nat) (x91_22 : Bool), v91 = .bool x91_22 ∧ Aside0 (sprref7_pieces.j3 kq a1 t246 x7_1 x8_1 t254 x10_3 x11_3 x91_22 = some (r1, r2)) ∧ Aside0 (kq ≤ k3) ∧ Aside0 (Kd.R Kd.string 9 wc w.heap.size (fun k_ => some k_ ≠ ((.slice Ao21 t254.length co21) : Value).ownBlock) (.slice (some ad253) t246.length co8) t246) ∧ Aside0 (Kd.R (Kd.int .i64) 3 wc w.heap.size (fun k_ => some k_ ≠ (u10 : Value).ownBlock) u7 x7_1) ∧ Aside0 (Kd.R Kd.string 9 wc w.heap.size (fun k_ => some k_ ≠ ((.slice (some ad253) t246.length co8) : Value).ownBlock) (.slice Ao21 t254.length co21) t254) ∧ Aside0 (Kd.R (Kd.int .i64) 3 wc w.heap.size (fun k_ => some k_ ≠ (u7 : Value).ownBlock) u10 x10_3) ∧ Aside0 (Below w.heap.size w wc))
                            case first =>
                              have H := HC23.out
                              clear HC23
                              by_cases c24 : 0 ≤ x11_3
                              · rw [if_pos c24] at H
                                have c24b0 : decide (0 ≤ x11_3) = true := decide_eq_true c24
                                clear c24
                                (first | rw [c24b0] | (simp only [i64_w, i32_w]; rw [c24b0]) | skip)
                                by_cases c25 : x11_3 < (t254.length : Int)
                                · rw [if_pos c25] at H
                                  have c25b0 : decide (x11_3 < (t254.length : Int)) = true := decide_eq_true c25
                                  clear c25
                                  by_cases c26 : (rdOf ByteArray.empty t254 x11_3).toList = ([] : List UInt8)
                                  · rw [if_pos c26] at H
                                    have c26b0 : ((rdOf ByteArray.empty t254 x11_3).toList == ([] : List UInt8)) = true := beq_iff_eq.mpr c26
                                    have c26b1 : ((rdOf ByteArray.empty t254 x11_3).toList != ([] : List UInt8)) = false := bne_eq_false_iff_eq.mpr c26
                                    clear c26
                                    have H' := Aside0.mk H
                                    clear H
                                    have p267 : 0 ≤ (x11_3 : Int) := of_decide_eq_true (by first | (with_reducible assumption) | assumption)
                                    have q267 : x11_3 < (t254.length : Int) := of_decide_eq_true (by first | (with_reducible assumption) | assumption)
                                    obtain ⟨ad267, e267, hx267_0⟩ := Kd.at_string (Kd.R_reads' HO_9.out).2.2 x11_3 p267 q267
                                    cases e267
                                    replace p267 := eq_true p267
                                    replace q267 := eq_true q267
                                    go_wp2
                                    go_meet
                                    case rel => exact ⟨_, (true), (by first | rfl | (simp; done) | (simp [*]; done)), H', ⟨by have := HK1.out; have := HJ6.out; have := HK3.out; first | omega | exact Nat.le_refl _⟩, ⟨by (with_reducible repeat (first | apply Kd.R_alloc | apply Kd.R_drewN | apply Kd.R_drew)); exact HO_6.out⟩, ⟨by (with_reducible repeat (first | apply Kd.R_alloc | apply Kd.R_drewN | apply Kd.R_drew)); exact HO_7.out⟩, ⟨by (with_reducible repeat (first | apply Kd.R_alloc | apply Kd.R_drewN | apply Kd.R_drew)); exact HO_9.out⟩, ⟨by (with_reducible repeat (first | apply Kd.R_alloc | apply Kd.R_drewN | apply Kd.R_drew)); exact HO_10.out⟩, ⟨by repeat (first | (with_reducible first | exact HB.out | apply below_alloc | apply pw_below_drewN | apply below_drew1) | exact HB.out)⟩⟩
                                  · rw [if_neg c26] at H
                                    have c26b0 : ((rdOf ByteArray.empty t254 x11_3).toList == ([] : List UInt8)) = false := beq_eq_false_iff_ne.mpr c26
                                    have c26b1 : ((rdOf ByteArray.empty t254 x11_3).toList != ([] : List UInt8)) = true := bne_iff_ne.mpr c26
                                    by_cases c27 : ((rdOf ByteArray.empty t254 x11_3).size : Int) > 3
                                    · rw [if_pos c27] at H
                                      have c27b0 : decide (3 < ((rdOf ByteArray.empty t254 x11_3).size : Int)) = true := decide_eq_true c27
                                      have c27b1 : decide (3 < (rdOf ByteArray.empty t254 x11_3).size) = true := decide_eq_true (by omega)
                                      clear c27
                                      have H' := Aside0.mk H
                                      clear H
                                      have p267 : 0 ≤ (x11_3 : Int) := of_decide_eq_true (by first | (with_reducible assumption) | assumption)
                                      have q267 : x11_3 < (t254.length : Int) := of_decide_eq_true (by first | (with_reducible assumption) | assumption)
                                      obtain ⟨ad267, e267, hx267_0⟩ := Kd.at_string (Kd.R_reads' HO_9.out).2.2 x11_3 p267 q267
                                      cases e267
                                      replace p267 := eq_true p267
                                      replace q267 := eq_true q267
                                      have p268 : 0 ≤ (x11_3 : Int) := of_decide_eq_true (by first | (with_reducible assumption) | assumption)
                                      have q268 : x11_3 < (t254.length : Int) := of_decide_eq_true (by first | (with_reducible assumption) | assumption)
                                      obtain ⟨ad268, e268, hx268_0⟩ := Kd.at_string (Kd.R_reads' HO_9.out).2.2 x11_3 p268 q268
                                      obtain rfl : ad267 = ad268 := (by injection e268)
                                      replace p268 := eq_true p268
                                      replace q268 := eq_true q268
                                      go_wp2
                                      go_meet
                                      case rel => exact ⟨_, (true), (by first | rfl | (simp; done) | (simp [*]; done)), H', ⟨by have := HK1.out; have := HJ6.out; have := HK3.out; first | omega | exact Nat.le_refl _⟩, ⟨by (with_reducible repeat (first | apply Kd.R_alloc | apply Kd.R_drewN | apply Kd.R_drew)); exact HO_6.out⟩, ⟨by (with_reducible repeat (first | apply Kd.R_alloc | apply Kd.R_drewN | apply Kd.R_drew)); exact HO_7.out⟩, ⟨by (with_reducible repeat (first | apply Kd.R_alloc | apply Kd.R_drewN | apply Kd.R_drew)); exact HO_9.out⟩, ⟨by (with_reducible repeat (first | apply Kd.R_alloc | apply Kd.R_drewN | apply Kd.R_drew)); exact HO_10.out⟩, ⟨by repeat (first | (with_reducible first | exact HB.out | apply below_alloc | apply pw_below_drewN | apply below_drew1) | exact HB.out)⟩⟩
                                    · rw [if_neg c27] at H
                                      have c27b0 : decide (3 < ((rdOf ByteArray.empty t254 x11_3).size : Int)) = false := decide_eq_false c27
                                      have c27b1 : decide (3 < (rdOf ByteArray.empty t254 x11_3).size) = false := decide_eq_false (by omega)
                                      clear c27
                                      replace H := Option.bind_eq_some_iff.mp H
                                      obtain ⟨t270, A280, H⟩ := H
                                      replace H : (if t270 = true then (if ((rdOf ByteArray.empty t254 x11_3).size : Int) > 1 then (if 0 < ((rdOf ByteArray.empty t254 x11_3).size : Int) then (sprref7_pieces.j3 k3 a1 t246 x7_1 x8_1 t254 x10_3 x11_3 ((bt (rdOf ByteArray.empty t254 x11_3) 0) == 48)) else (none)) else (sprref7_pieces.j3 k3 a1 t246 x7_1 x8_1 t254 x10_3 x11_3 false)) else (sprref7_pieces.j3 k3 a1 t246 x7_1 x8_1 t254 x10_3 x11_3 true)) = some (r1, r2) := H
                                      have A28 := Aside0.mk A280
                                      clear A280
                                      by_cases c29 : t270 = true
                                      · subst c29
                                        have H1 : (if ((rdOf ByteArray.empty t254 x11_3).size : Int) > 1 then (if 0 < ((rdOf ByteArray.empty t254 x11_3).size : Int) then (sprref7_pieces.j3 k3 a1 t246 x7_1 x8_1 t254 x10_3 x11_3 ((bt (rdOf ByteArray.empty t254 x11_3) 0) == 48)) else (none)) else (sprref7_pieces.j3 k3 a1 t246 x7_1 x8_1 t254 x10_3 x11_3 false)) = some (r1, r2) := by rw [if_pos rfl] at H; exact H
                                        clear H
                                        have H := H1
                                        clear H1
                                        by_cases c30 : ((rdOf ByteArray.empty t254 x11_3).size : Int) > 1
                                        · rw [if_pos c30] at H
                                          have c30b0 : decide (1 < ((rdOf ByteArray.empty t254 x11_3).size : Int)) = true := decide_eq_true c30
                                          have c30b1 : decide (1 < (rdOf ByteArray.empty t254 x11_3).size) = true := decide_eq_true (by omega)
                                          clear c30
                                          by_cases c31 : 0 < ((rdOf ByteArray.empty t254 x11_3).size : Int)
                                          · rw [if_pos c31] at H
                                            have c31b0 : decide (0 < ((rdOf ByteArray.empty t254 x11_3).size : Int)) = true := decide_eq_true c31
                                            have c31b1 : decide (0 < (rdOf ByteArray.empty t254 x11_3).size) = true := decide_eq_true (by omega)
                                            clear c31
                                            have H' := Aside0.mk H
                                            clear H
                                            have p267 : 0 ≤ (x11_3 : Int) := of_decide_eq_true (by first | (with_reducible assumption) | assumption)
                                            have q267 : x11_3 < (t254.length : Int) := of_decide_eq_true (by first | (with_reducible assumption) | assumption)
                                            obtain ⟨ad267, e267, hx267_0⟩ := Kd.at_string (Kd.R_reads' HO_9.out).2.2 x11_3 p267 q267
                                            cases e267
                                            replace p267 := eq_true p267
                                            replace q267 := eq_true q267
                                            have p268 : 0 ≤ (x11_3 : Int) := of_decide_eq_true (by first | (with_reducible assumption) | assumption)
                                            have q268 : x11_3 < (t254.length : Int) := of_decide_eq_true (by first | (with_reducible assumption) | assumption)
                                            obtain ⟨ad268, e268, hx268_0⟩ := Kd.at_string (Kd.R_reads' HO_9.out).2.2 x11_3 p268 q268
                                            obtain rfl : ad267 = ad268 := (by injection e268)
                                            replace p268 := eq_true p268
                                            replace q268 := eq_true q268
                                            have p269 : 0 ≤ (x11_3 : Int) := of_decide_eq_true (by first | (with_reducible assumption) | assumption)
                                            have q269 : x11_3 < (t254.length : Int) := of_decide_eq_true (by first | (with_reducible assumption) | assumption)
                                            obtain ⟨ad269, e269, hx269_0⟩ := Kd.at_string (Kd.R_reads' HO_9.out).2.2 x11_3 p269 q269
                                            obtain rfl : ad267 = ad269 := (by injection e269)
                                            replace p269 := eq_true p269
                                            replace q269 := eq_true q269
                                            go_wp2_with (first | (go_at_call 31; (with_reducible refine (sprref7_digits.calls k3 (rdOf ByteArray.empty t254 x11_3) 10 true _ A28.out).mono ?_); rintro e w' ⟨rfl, ⟨nd, rfl⟩⟩; have p271 : 0 ≤ (x11_3 : Int) := of_decide_eq_true (by first | (with_reducible assumption) | assumption); have q271 : x11_3 < (t254.length : Int) := of_decide_eq_true (by first | (with_reducible assumption) | assumption); obtain ⟨ad271, e271, hx271_0⟩ := Kd.at_string (Kd.R_reads' HO_9.out).2.2 x11_3 p271 q271; obtain rfl : ad267 = ad271 := (by injection e271); replace p271 := eq_true p271; replace q271 := eq_true q271; have p272 : 0 ≤ (x11_3 : Int) := of_decide_eq_true (by first | (with_reducible assumption) | assumption); have q272 : x11_3 < (t254.length : Int) := of_decide_eq_true (by first | (with_reducible assumption) | assumption); obtain ⟨ad272, e272, hx272_0⟩ := Kd.at_string (Kd.R_reads' HO_9.out).2.2 x11_3 p272 q272; obtain rfl : ad267 = ad272 := (by injection e272); replace p272 := eq_true p272; replace q272 := eq_true q272; have p32 : 0 ≤ (0 : Int) := (by omega); have q32 : 0 < (rdOf ByteArray.empty t254 x11_3).size := (by have : (0 : Int) < ((rdOf ByteArray.empty t254 x11_3).size : Int) := of_decide_eq_true (by first | (with_reducible assumption) | assumption); omega); have hx32 : ∀ h : 0 < (rdOf ByteArray.empty t254 x11_3).size, (((rdOf ByteArray.empty t254 x11_3)[0]'h).toNat : Int) = bt (rdOf ByteArray.empty t254 x11_3) 0 := bt_at (rdOf ByteArray.empty t254 x11_3) 0; clear p32; have qi32 : (0 < ((rdOf ByteArray.empty t254 x11_3).size : Int)) = True := eq_true (of_decide_eq_true (by first | (with_reducible assumption) | assumption)); replace q32 := eq_true q32))
                                            go_meet
                                            case rel => exact ⟨_, (((bt (rdOf ByteArray.empty t254 x11_3) 0) == 48)), (by first | rfl | (simp; done) | (simp [*]; done)), H', ⟨by have := HK1.out; have := HJ6.out; have := HK3.out; first | omega | exact Nat.le_refl _⟩, ⟨by (with_reducible repeat (first | apply Kd.R_alloc | apply Kd.R_drewN | apply Kd.R_drew)); exact HO_6.out⟩, ⟨by (with_reducible repeat (first | apply Kd.R_alloc | apply Kd.R_drewN | apply Kd.R_drew)); exact HO_7.out⟩, ⟨by (with_reducible repeat (first | apply Kd.R_alloc | apply Kd.R_drewN | apply Kd.R_drew)); exact HO_9.out⟩, ⟨by (with_reducible repeat (first | apply Kd.R_alloc | apply Kd.R_drewN | apply Kd.R_drew)); exact HO_10.out⟩, ⟨by repeat (first | (with_reducible first | exact HB.out | apply below_alloc | apply pw_below_drewN | apply below_drew1) | exact HB.out)⟩⟩
                                          · rw [if_neg c31] at H
                                            exact absurd H (by simp)
                                        · rw [if_neg c30] at H
                                          have c30b0 : decide (1 < ((rdOf ByteArray.empty t254 x11_3).size : Int)) = false := decide_eq_false c30
                                          have c30b1 : decide (1 < (rdOf ByteArray.empty t254 x11_3).size) = false := decide_eq_false (by omega)
                                          clear c30
                                          have H' := Aside0.mk H
                                          clear H
                                          have p267 : 0 ≤ (x11_3 : Int) := of_decide_eq_true (by first | (with_reducible assumption) | assumption)
                                          have q267 : x11_3 < (t254.length : Int) := of_decide_eq_true (by first | (with_reducible assumption) | assumption)
                                          obtain ⟨ad267, e267, hx267_0⟩ := Kd.at_string (Kd.R_reads' HO_9.out).2.2 x11_3 p267 q267
                                          cases e267
                                          replace p267 := eq_true p267
                                          replace q267 := eq_true q267
                                          have p268 : 0 ≤ (x11_3 : Int) := of_decide_eq_true (by first | (with_reducible assumption) | assumption)
                                          have q268 : x11_3 < (t254.length : Int) := of_decide_eq_true (by first | (with_reducible assumption) | assumption)
                                          obtain ⟨ad268, e268, hx268_0⟩ := Kd.at_string (Kd.R_reads' HO_9.out).2.2 x11_3 p268 q268
                                          obtain rfl : ad267 = ad268 := (by injection e268)
                                          replace p268 := eq_true p268
                                          replace q268 := eq_true q268
                                          have p269 : 0 ≤ (x11_3 : Int) := of_decide_eq_true (by first | (with_reducible assumption) | assumption)
                                          have q269 : x11_3 < (t254.length : Int) := of_decide_eq_true (by first | (with_reducible assumption) | assumption)
                                          obtain ⟨ad269, e269, hx269_0⟩ := Kd.at_string (Kd.R_reads' HO_9.out).2.2 x11_3 p269 q269
                                          obtain rfl : ad267 = ad269 := (by injection e269)
                                          replace p269 := eq_true p269
                                          replace q269 := eq_true q269
                                          go_wp2_with (first | (go_at_call 31; (with_reducible refine (sprref7_digits.calls k3 (rdOf ByteArray.empty t254 x11_3) 10 true _ A28.out).mono ?_); rintro e w' ⟨rfl, ⟨nd, rfl⟩⟩; have p271 : 0 ≤ (x11_3 : Int) := of_decide_eq_true (by first | (with_reducible assumption) | assumption); have q271 : x11_3 < (t254.length : Int) := of_decide_eq_true (by first | (with_reducible assumption) | assumption); obtain ⟨ad271, e271, hx271_0⟩ := Kd.at_string (Kd.R_reads' HO_9.out).2.2 x11_3 p271 q271; obtain rfl : ad267 = ad271 := (by injection e271); replace p271 := eq_true p271; replace q271 := eq_true q271))
                                          go_meet
                                          case rel => exact ⟨_, (false), (by first | rfl | (simp; done) | (simp [*]; done)), H', ⟨by have := HK1.out; have := HJ6.out; have := HK3.out; first | omega | exact Nat.le_refl _⟩, ⟨by (with_reducible repeat (first | apply Kd.R_alloc | apply Kd.R_drewN | apply Kd.R_drew)); exact HO_6.out⟩, ⟨by (with_reducible repeat (first | apply Kd.R_alloc | apply Kd.R_drewN | apply Kd.R_drew)); exact HO_7.out⟩, ⟨by (with_reducible repeat (first | apply Kd.R_alloc | apply Kd.R_drewN | apply Kd.R_drew)); exact HO_9.out⟩, ⟨by (with_reducible repeat (first | apply Kd.R_alloc | apply Kd.R_drewN | apply Kd.R_drew)); exact HO_10.out⟩, ⟨by repeat (first | (with_reducible first | exact HB.out | apply below_alloc | apply pw_below_drewN | apply below_drew1) | exact HB.out)⟩⟩
                                      · replace c29 := Bool.eq_false_iff.mpr c29
                                        subst c29
                                        have H1 : (sprref7_pieces.j3 k3 a1 t246 x7_1 x8_1 t254 x10_3 x11_3 true) = some (r1, r2) := by rw [if_neg (show ¬ (false = true) by decide)] at H; exact H
                                        clear H
                                        have H := H1
                                        clear H1
                                        have H' := Aside0.mk H
                                        clear H
                                        have p267 : 0 ≤ (x11_3 : Int) := of_decide_eq_true (by first | (with_reducible assumption) | assumption)
                                        have q267 : x11_3 < (t254.length : Int) := of_decide_eq_true (by first | (with_reducible assumption) | assumption)
                                        obtain ⟨ad267, e267, hx267_0⟩ := Kd.at_string (Kd.R_reads' HO_9.out).2.2 x11_3 p267 q267
                                        cases e267
                                        replace p267 := eq_true p267
                                        replace q267 := eq_true q267
                                        have p268 : 0 ≤ (x11_3 : Int) := of_decide_eq_true (by first | (with_reducible assumption) | assumption)
                                        have q268 : x11_3 < (t254.length : Int) := of_decide_eq_true (by first | (with_reducible assumption) | assumption)
                                        obtain ⟨ad268, e268, hx268_0⟩ := Kd.at_string (Kd.R_reads' HO_9.out).2.2 x11_3 p268 q268
                                        obtain rfl : ad267 = ad268 := (by injection e268)
                                        replace p268 := eq_true p268
                                        replace q268 := eq_true q268
                                        have p269 : 0 ≤ (x11_3 : Int) := of_decide_eq_true (by first | (with_reducible assumption) | assumption)
                                        have q269 : x11_3 < (t254.length : Int) := of_decide_eq_true (by first | (with_reducible assumption) | assumption)
                                        obtain ⟨ad269, e269, hx269_0⟩ := Kd.at_string (Kd.R_reads' HO_9.out).2.2 x11_3 p269 q269
                                        obtain rfl : ad267 = ad269 := (by injection e269)
                                        replace p269 := eq_true p269
                                        replace q269 := eq_true q269
                                        go_wp2_with (first | (go_at_call 31; (with_reducible refine (sprref7_digits.calls k3 (rdOf ByteArray.empty t254 x11_3) 10 false _ A28.out).mono ?_); rintro e w' ⟨rfl, ⟨nd, rfl⟩⟩))
                                        go_meet
                                        case rel => exact ⟨_, (true), (by first | rfl | (simp; done) | (simp [*]; done)), H', ⟨by have := HK1.out; have := HJ6.out; have := HK3.out; first | omega | exact Nat.le_refl _⟩, ⟨by (with_reducible repeat (first | apply Kd.R_alloc | apply Kd.R_drewN | apply Kd.R_drew)); exact HO_6.out⟩, ⟨by (with_reducible repeat (first | apply Kd.R_alloc | apply Kd.R_drewN | apply Kd.R_drew)); exact HO_7.out⟩, ⟨by (with_reducible repeat (first | apply Kd.R_alloc | apply Kd.R_drewN | apply Kd.R_drew)); exact HO_9.out⟩, ⟨by (with_reducible repeat (first | apply Kd.R_alloc | apply Kd.R_drewN | apply Kd.R_drew)); exact HO_10.out⟩, ⟨by repeat (first | (with_reducible first | exact HB.out | apply below_alloc | apply pw_below_drewN | apply below_drew1) | exact HB.out)⟩⟩
                                · rw [if_neg c25] at H
                                  exact absurd H (by simp)
                              · rw [if_neg c24] at H
                                exact absurd H (by simp)
                            case rest =>
                              clear HC23
                              try clear c1
                              try clear c2
                              try clear p2
                              try clear q2
                              try clear hx2
                              try clear c3
                              try clear c3b0
                              try clear c3b1
                              try clear p3
                              try clear q3
                              try clear hx3
                              try clear qi3
                              try clear c4
                              try clear c6
                              try clear c6b0
                              try clear p6
                              try clear c9
                              try clear c10
                              try clear c10b0
                              try clear c10b1
                              try clear c11
                              try clear c11b0
                              try clear c15
                              try clear c16
                              try clear c16b0
                              try clear c17
                              try clear c17b0
                              try clear c19
                              try clear c19b0
                              try clear c19b1
                              try clear c22
                              try clear c22b0
                              try clear c24
                              try clear c24b0
                              try clear p24
                              try clear q24
                              try clear hx24
                              try clear c25
                              try clear c25b0
                              try clear p25
                              try clear q25
                              try clear hx25
                              try clear c26
                              try clear c26b0
                              try clear c26b1
                              try clear p26
                              try clear q26
                              try clear hx26
                              try clear c27
                              try clear c27b0
                              try clear c27b1
                              try clear p27
                              try clear q27
                              try clear hx27
                              try clear c29
                              try clear c30
                              try clear c30b0
                              try clear c30b1
                              try clear c31
                              try clear c31b0
                              try clear c31b1
                              try clear p32
                              try clear q32
                              try clear hx32
                              try clear qi32
                              try clear hx249_0
                              try clear hx253_0
                              try clear hx267_0
                              try clear hx268_0
                              try clear hx269_0
                              try clear hx271_0
                              try clear hx272_0
                              try clear p2
                              try clear p249
                              try clear p253
                              try clear p267
                              try clear p268
                              try clear p269
                              try clear p271
                              try clear p272
                              try clear p32
                              try clear p6
                              try clear q2
                              try clear q249
                              try clear q253
                              try clear q267
                              try clear q268
                              try clear q269
                              try clear q271
                              try clear q272
                              try clear q32
                              obtain ⟨kq, x91_22, rfl, HA, HJ22, HO_6, HO_7, HO_9, HO_10, HB⟩ := hcut
                              cases kq with
                              | zero => exact absurd HA.out (by simp [sprref7_pieces.j3])
                              | succ kj22 =>
                                have H := HA.out
                                clear HA
                                simp only [sprref7_pieces.j3] at H
                                by_cases c33 : x91_22 = true
                                · subst c33
                                  have H1 : (some (([] : List Int), false)) = some (r1, r2) := by rw [if_pos rfl] at H; exact H
                                  clear H
                                  have H := H1
                                  clear H1
                                  simp only [Option.some.injEq, Prod.mk.injEq] at H
                                  obtain ⟨rfl, rfl⟩ := H
                                  go_wp2
                                  go_ret2
                                  exact ⟨_, by first | rfl | (simp [errW_none, errW_some] <;> rfl) | (simp [*, errW_none, errW_some] <;> rfl), by first | exact Kd.R_nil _ _ _ _ _ | exact Kd.N_nil _ _ _ _ _ | exact Kd.V_nil _ _ _ _ _ | exact Kd.Q_nil _ _ _ _ _ | exact Kd.S_nil _ _ _ _ _, by repeat (first | (with_reducible first | exact HB.out | apply below_alloc | apply pw_below_drewN | apply below_drew1) | exact HB.out)⟩
                                · replace c33 := Bool.eq_false_iff.mpr c33
                                  subst c33
                                  have H1 : (if 0 ≤ x11_3 then (if x11_3 < (t254.length : Int) then ((sprref7_number.f kj22 (rdOf ByteArray.empty t254 x11_3)).bind fun bt274 => (if bt274.1 > 255 then (some (([] : List Int), false)) else (if x10_3.length < 17592186044416 then (sprref7_pieces.l1 kj22 a1 t246 x7_1 x8_1 t254 (x10_3 ++ [bt274.1]) (wrap64 (x11_3 + 1))) else (none)))) else (none)) else (none)) = some (r1, r2) := by rw [if_neg (show ¬ (false = true) by decide)] at H; exact H
                                  clear H
                                  have H := H1
                                  clear H1
                                  by_cases c34 : 0 ≤ x11_3
                                  · rw [if_pos c34] at H
                                    have c34b0 : decide (0 ≤ x11_3) = true := decide_eq_true c34
                                    clear c34
                                    by_cases c35 : x11_3 < (t254.length : Int)
                                    · rw [if_pos c35] at H
                                      have c35b0 : decide (x11_3 < (t254.length : Int)) = true := decide_eq_true c35
                                      clear c35
                                      replace H := Option.bind_eq_some_iff.mp H
                                      obtain ⟨⟨t274, t275⟩, A360, H⟩ := H
                                      replace H : (if t274 > 255 then (some (([] : List Int), false)) else (if x10_3.length < 17592186044416 then (sprref7_pieces.l1 kj22 a1 t246 x7_1 x8_1 t254 (x10_3 ++ [t274]) (wrap64 (x11_3 + 1))) else (none))) = some (r1, r2) := H
                                      have A36 := Aside0.mk A360
                                      clear A360
                                      by_cases c37 : t274 > 255
                                      · rw [if_pos c37] at H
                                        have c37b0 : decide (255 < t274) = true := decide_eq_true c37
                                        clear c37
                                        simp only [Option.some.injEq, Prod.mk.injEq] at H
                                        obtain ⟨rfl, rfl⟩ := H
                                        have p273 : 0 ≤ (x11_3 : Int) := of_decide_eq_true (by first | (with_reducible assumption) | assumption)
                                        have q273 : x11_3 < (t254.length : Int) := of_decide_eq_true (by first | (with_reducible assumption) | assumption)
                                        obtain ⟨ad273, e273, hx273_0⟩ := Kd.at_string (Kd.R_reads' HO_9.out).2.2 x11_3 p273 q273
                                        cases e273
                                        replace p273 := eq_true p273
                                        replace q273 := eq_true q273
                                        go_wp2_with (first | ((with_reducible refine gate_callee (f := 28) rfl ?_); refine goesL_ (some 97) rfl rfl Tryd.func28 (by kernel_rfl) rfl #[.string (rdOf ByteArray.empty t254 x11_3)] rfl (by (try simp only [List.map_toArray, List.map_cons, List.map_nil]); first | done | rfl | (simp only [List.length_drop, List.length_take]; rfl)) ?_; (with_reducible refine (sprref7_number.calls kj22 (rdOf ByteArray.empty t254 x11_3) t274 t275 _ A36.out).mono ?_); rintro e w38 ⟨rfl, hb⟩; refine ⟨_, rfl, ?_⟩; have n0_ := Aside0.mk (Kd.R_below (by (with_reducible repeat (first | apply Kd.R_alloc | apply Kd.R_drewN | apply Kd.R_drew)); exact HO_6.out) hb); have n1_ := Aside0.mk (Kd.R_below (by (with_reducible repeat (first | apply Kd.R_alloc | apply Kd.R_drewN | apply Kd.R_drew)); exact HO_7.out) hb); have n2_ := Aside0.mk (Kd.R_below (by (with_reducible repeat (first | apply Kd.R_alloc | apply Kd.R_drewN | apply Kd.R_drew)); exact HO_9.out) hb); have n3_ := Aside0.mk (Kd.R_below (by (with_reducible repeat (first | apply Kd.R_alloc | apply Kd.R_drewN | apply Kd.R_drew)); exact HO_10.out) hb); have n4_ := Aside0.mk (below_step (by repeat (first | (with_reducible first | exact HB.out | apply below_alloc | apply pw_below_drewN | apply below_drew1) | exact HB.out)) hb); clear HO_6; clear HO_7; clear HO_9; clear HO_10; clear HB; have HO_6 := n0_; have HO_7 := n1_; have HO_9 := n2_; have HO_10 := n3_; have HB := n4_; clear n0_ n1_ n2_ n3_ n4_; (try clear hb); (try clear hb2); (try clear hk); (try clear hi)))
                                        go_ret2
                                        exact ⟨_, by first | rfl | (simp [errW_none, errW_some] <;> rfl) | (simp [*, errW_none, errW_some] <;> rfl), by first | exact Kd.R_nil _ _ _ _ _ | exact Kd.N_nil _ _ _ _ _ | exact Kd.V_nil _ _ _ _ _ | exact Kd.Q_nil _ _ _ _ _ | exact Kd.S_nil _ _ _ _ _, by repeat (first | (with_reducible first | exact HB.out | apply below_alloc | apply pw_below_drewN | apply below_drew1) | exact HB.out)⟩
                                      · rw [if_neg c37] at H
                                        have c37b0 : decide (255 < t274) = false := decide_eq_false c37
                                        clear c37
                                        by_cases c39 : x10_3.length < 17592186044416
                                        · rw [if_pos c39] at H
                                          have LMc39 := Aside0.mk c39
                                          clear c39
                                          obtain ⟨y276, hy276⟩ : ∃ y_ : List Int, y_ = (x10_3 ++ [t274]) := ⟨_, rfl⟩
                                          replace H : (sprref7_pieces.l1 kj22 a1 t246 x7_1 x8_1 t254 y276 (wrap64 (x11_3 + 1))) = some (r1, r2) := by first | (rw [hy276]; with_reducible exact H) | (have H2_ := (Option.bind_some _ _).symm.trans H; rw [hy276]; with_reducible exact H2_) | (have H2_ := (Option.bind_some _ _).symm.trans H; with_reducible exact H2_) | with_reducible exact H | (rw [hy276]; exact H) | exact H
                                          have Ny276 := Aside0.mk hy276
                                          clear hy276
                                          have H' := Aside0.mk H
                                          clear H
                                          have p273 : 0 ≤ (x11_3 : Int) := of_decide_eq_true (by first | (with_reducible assumption) | assumption)
                                          have q273 : x11_3 < (t254.length : Int) := of_decide_eq_true (by first | (with_reducible assumption) | assumption)
                                          obtain ⟨ad273, e273, hx273_0⟩ := Kd.at_string (Kd.R_reads' HO_9.out).2.2 x11_3 p273 q273
                                          cases e273
                                          replace p273 := eq_true p273
                                          replace q273 := eq_true q273
                                          go_wp2_with (first | ((with_reducible refine gate_callee (f := 28) rfl ?_); refine goesL_ (some 97) rfl rfl Tryd.func28 (by kernel_rfl) rfl #[.string (rdOf ByteArray.empty t254 x11_3)] rfl (by (try simp only [List.map_toArray, List.map_cons, List.map_nil]); first | done | rfl | (simp only [List.length_drop, List.length_take]; rfl)) ?_; (with_reducible refine (sprref7_number.calls kj22 (rdOf ByteArray.empty t254 x11_3) t274 t275 _ A36.out).mono ?_); rintro e w40 ⟨rfl, hb⟩; refine ⟨_, rfl, ?_⟩; have n0_ := Aside0.mk (Kd.R_below (by (with_reducible repeat (first | apply Kd.R_alloc | apply Kd.R_drewN | apply Kd.R_drew)); exact HO_6.out) hb); have n1_ := Aside0.mk (Kd.R_below (by (with_reducible repeat (first | apply Kd.R_alloc | apply Kd.R_drewN | apply Kd.R_drew)); exact HO_7.out) hb); have n2_ := Aside0.mk (Kd.R_below (by (with_reducible repeat (first | apply Kd.R_alloc | apply Kd.R_drewN | apply Kd.R_drew)); exact HO_9.out) hb); have n3_ := Aside0.mk (Kd.R_below (by (with_reducible repeat (first | apply Kd.R_alloc | apply Kd.R_drewN | apply Kd.R_drew)); exact HO_10.out) hb); have n4_ := Aside0.mk (below_step (by repeat (first | (with_reducible first | exact HB.out | apply below_alloc | apply pw_below_drewN | apply below_drew1) | exact HB.out)) hb); clear HO_6; clear HO_7; clear HO_9; clear HO_10; clear HB; have HO_6 := n0_; have HO_7 := n1_; have HO_9 := n2_; have HO_10 := n3_; have HB := n4_; clear n0_ n1_ n2_ n3_ n4_; (try clear hb); (try clear hb2); (try clear hk); (try clear hi)) | ((with_reducible refine gate_builtin (b := .append) (xs := #[.tmp 102, .tmp 104]) rfl ?_); (try (refine gate_guard (by rfl) ?_; dsimp only)); at_builtin; refine Kd.R_append (Kd.int .i64) (w0 := w) w.heap.size rfl (.tmp 102) (.tmp 104) 53 3 (.int .i64 0) 8 rfl Tryd.underlying53 info3 rfl (by decide) (by omega) u10 x10_3 t274 [.int .i64 t274] (fun k_ => some k_ ≠ (u7 : Value).ownBlock) (fun _ => False) rfl rfl ?aP (fun _ hk => hk.elim) ?aF ?aO ?aB ?aS ?aL ?_; (case aP => exact rfl); (case aB => exact (by repeat (first | (with_reducible first | exact HB.out | apply below_alloc | apply pw_below_drewN | apply below_drew1) | exact HB.out))); (case aF => exact (fun k_ hk => Kd.fresh' (Kd.R_lt (by (with_reducible repeat (first | apply Kd.R_alloc | apply Kd.R_drewN | apply Kd.R_drew)); exact HO_7.out)) k_ hk)); (case aO => exact (by (with_reducible repeat (first | apply Kd.R_alloc | apply Kd.R_drewN | apply Kd.R_drew)); exact HO_10.out)); (case aS => exact (below_size (by repeat (first | (with_reducible first | exact HB.out | apply below_alloc | apply pw_below_drewN | apply below_drew1) | exact HB.out)))); (case aL => have := LMc39.out; omega); intro v277 w41 ho hb hg hat; rw [← Ny276.out] at ho; have n0_ := Aside0.mk (Kd.R_over' (by (with_reducible repeat (first | apply Kd.R_alloc | apply Kd.R_drewN | apply Kd.R_drew)); exact HO_6.out) (Kd.R_typed (by (with_reducible repeat (first | apply Kd.R_alloc | apply Kd.R_drewN | apply Kd.R_drew)); exact HO_10.out)) (by decide) hg); have n1_ := Aside0.mk (Kd.R_after (ok := (fun _ => True)) (by (with_reducible repeat (first | apply Kd.R_alloc | apply Kd.R_drewN | apply Kd.R_drew)); exact Kd.R_mono HO_7.out (fun _ hk => ⟨trivial, hk⟩)) hg hat); have n2_ := Aside0.mk (Kd.R_over' (by (with_reducible repeat (first | apply Kd.R_alloc | apply Kd.R_drewN | apply Kd.R_drew)); exact HO_9.out) (Kd.R_typed (by (with_reducible repeat (first | apply Kd.R_alloc | apply Kd.R_drewN | apply Kd.R_drew)); exact HO_10.out)) (by decide) hg); have n3_ := Aside0.mk (hb); have n4_ := Aside0.mk (ho); clear HO_6; clear HO_7; clear HO_9; clear HB; clear HO_10; have HO_6 := n0_; have HO_7 := n1_; have HO_9 := n2_; have HB := n3_; have HO278 := n4_; clear n0_ n1_ n2_ n3_ n4_; clear ho hb hg hat))
                                          go_roundg kj22
                                          case measure => have := HK1.out; have := HJ6.out; have := HK3.out; have := HJ22.out; omega
                                          case rel => exact ⟨(y276), (wrap64 (x11_3 + 1)), (by first | rfl | (simp; done) | (simp [*]; done)), H', ⟨by have := HK1.out; have := HJ6.out; have := HK3.out; have := HJ22.out; omega⟩, ⟨by (with_reducible repeat (first | apply Kd.R_alloc | apply Kd.R_drewN | apply Kd.R_drew)); exact HO_6.out⟩, ⟨by (with_reducible repeat (first | apply Kd.R_alloc | apply Kd.R_drewN | apply Kd.R_drew)); exact Kd.R_mono HO_7.out (fun _ hk => hk.2)⟩, ⟨by (with_reducible repeat (first | apply Kd.R_alloc | apply Kd.R_drewN | apply Kd.R_drew)); exact HO_9.out⟩, ⟨by (with_reducible repeat (first | apply Kd.R_alloc | apply Kd.R_drewN | apply Kd.R_drew)); exact HO278.out⟩, ⟨by repeat (first | (with_reducible first | exact HB.out | apply below_alloc | apply pw_below_drewN | apply below_drew1) | exact HB.out)⟩⟩
                                        · rw [if_neg c39] at H
                                          exact absurd H (by simp)
                                    · rw [if_neg c35] at H
                                      exact absurd H (by simp)
                                  · rw [if_neg c34] at H
                                    exact absurd H (by simp)
                          · rw [if_neg c22] at H
                            have c22b0 : decide (x11_3 < 4) = false := decide_eq_false c22
                            clear c22
                            by_cases c42 : 0 < (x10_3.length : Int)
                            · rw [if_pos c42] at H
                              have c42b0 : decide (0 < (x10_3.length : Int)) = true := decide_eq_true c42
                              have c42b1 : decide (0 < x10_3.length) = true := decide_eq_true (by omega)
                              clear c42
                              by_cases c43 : 1 < (x10_3.length : Int)
                              · rw [if_pos c43] at H
                                have c43b0 : decide (1 < (x10_3.length : Int)) = true := decide_eq_true c43
                                have c43b1 : decide (1 < x10_3.length) = true := decide_eq_true (by omega)
                                clear c43
                                by_cases c44 : 2 < (x10_3.length : Int)
                                · rw [if_pos c44] at H
                                  have c44b0 : decide (2 < (x10_3.length : Int)) = true := decide_eq_true c44
                                  have c44b1 : decide (2 < x10_3.length) = true := decide_eq_true (by omega)
                                  clear c44
                                  by_cases c45 : 3 < (x10_3.length : Int)
                                  · rw [if_pos c45] at H
                                    have c45b0 : decide (3 < (x10_3.length : Int)) = true := decide_eq_true c45
                                    have c45b1 : decide (3 < x10_3.length) = true := decide_eq_true (by omega)
                                    clear c45
                                    obtain ⟨y261, hy261⟩ : ∃ y_ : List Int, y_ = (([Go.bits .or .i64 (wrap64 ((rd x10_3 0) * 256)) (rd x10_3 1), Go.bits .or .i64 (wrap64 ((rd x10_3 2) * 256)) (rd x10_3 3)] : List Int)) := ⟨_, rfl⟩
                                    replace H : (if x7_1.length + y261.length < 17592186044416 then (sprref7_pieces.l0 k3 a1 t246 (x7_1 ++ y261) (wrap64 (x8_1 + 1))) else (none)) = some (r1, r2) := by first | (rw [hy261]; with_reducible exact H) | (have H2_ := (Option.bind_some _ _).symm.trans H; rw [hy261]; with_reducible exact H2_) | (have H2_ := (Option.bind_some _ _).symm.trans H; with_reducible exact H2_) | with_reducible exact H | (rw [hy261]; exact H) | exact H
                                    have Ny261 := Aside0.mk hy261
                                    clear hy261
                                    by_cases c46 : x7_1.length + y261.length < 17592186044416
                                    · rw [if_pos c46] at H
                                      have LMc46 := Aside0.mk c46
                                      clear c46
                                      obtain ⟨y264, hy264⟩ : ∃ y_ : List Int, y_ = (x7_1 ++ y261) := ⟨_, rfl⟩
                                      replace H : (sprref7_pieces.l0 k3 a1 t246 y264 (wrap64 (x8_1 + 1))) = some (r1, r2) := by first | (rw [hy264]; with_reducible exact H) | (have H2_ := (Option.bind_some _ _).symm.trans H; rw [hy264]; with_reducible exact H2_) | (have H2_ := (Option.bind_some _ _).symm.trans H; with_reducible exact H2_) | with_reducible exact H | (rw [hy264]; exact H) | exact H
                                      have Ny264 := Aside0.mk hy264
                                      clear hy264
                                      have H' := Aside0.mk H
                                      clear H
                                      try go_wp2
                                      have n0_ := Aside0.mk (Kd.R_drew HO_6.out)
                                      have n1_ := Aside0.mk (Kd.R_drew HO_7.out)
                                      have n2_ := Aside0.mk (Kd.R_drew HO_9.out)
                                      have n3_ := Aside0.mk (Kd.R_drew HO_10.out)
                                      have n4_ := Aside0.mk (below_drew1 HB.out)
                                      clear HO_6
                                      clear HO_7
                                      clear HO_9
                                      clear HO_10
                                      clear HB
                                      have HO_6 := n0_
                                      have HO_7 := n1_
                                      have HO_9 := n2_
                                      have HO_10 := n3_
                                      have HB := n4_
                                      clear n0_ n1_ n2_ n3_ n4_
                                      obtain ⟨Ao48, co48, eo48⟩ := Kd.R_slice HO_10.out
                                      (first | subst eo48 | (injection eo48 with f1_ f2_ f3_; have f4_ := f1_.symm; have f5_ := f3_.symm; clear f1_ f2_ f3_; subst f4_; subst f5_))
                                      have p257 : 0 ≤ (0 : Int) := (by omega)
                                      have q257 : 0 < (x10_3.length : Int) := of_decide_eq_true (by first | (with_reducible assumption) | assumption)
                                      obtain ⟨ad257, e257, hx257_0⟩ := Kd.at_int (Kd.R_reads' HO_10.out).2.2 0 p257 q257
                                      cases e257
                                      have qi257 : (0 < x10_3.length) = True := eq_true (by omega)
                                      (try rw [show ((0 : Int)).toNat = 0 from rfl] at hx257_0)
                                      (try rw [Addr.add_zero'] at hx257_0)
                                      replace p257 := eq_true p257
                                      replace q257 := eq_true q257
                                      have p258 : 0 ≤ (1 : Int) := (by omega)
                                      have q258 : 1 < (x10_3.length : Int) := of_decide_eq_true (by first | (with_reducible assumption) | assumption)
                                      obtain ⟨ad258, e258, hx258_0⟩ := Kd.at_int (Kd.R_reads' HO_10.out).2.2 1 p258 q258
                                      obtain rfl : ad257 = ad258 := (by injection e258)
                                      (try simp only [show (1 : Int).toNat = 1 from rfl, Nat.reduceMul, Nat.reduceEqDiff, Go.Addr.add, ↓reduceIte] at hx258_0)
                                      have qi258 : (1 < x10_3.length) = True := eq_true (by omega)
                                      (try rw [show ((1 : Int)).toNat = 1 from rfl] at hx258_0)
                                      replace p258 := eq_true p258
                                      replace q258 := eq_true q258
                                      have p259 : 0 ≤ (2 : Int) := (by omega)
                                      have q259 : 2 < (x10_3.length : Int) := of_decide_eq_true (by first | (with_reducible assumption) | assumption)
                                      obtain ⟨ad259, e259, hx259_0⟩ := Kd.at_int (Kd.R_reads' HO_10.out).2.2 2 p259 q259
                                      obtain rfl : ad257 = ad259 := (by injection e259)
                                      (try simp only [show (2 : Int).toNat = 2 from rfl, Nat.reduceMul, Nat.reduceEqDiff, Go.Addr.add, ↓reduceIte] at hx259_0)
                                      have qi259 : (2 < x10_3.length) = True := eq_true (by omega)
                                      (try rw [show ((2 : Int)).toNat = 2 from rfl] at hx259_0)
                                      replace p259 := eq_true p259
                                      replace q259 := eq_true q259
                                      have p260 : 0 ≤ (3 : Int) := (by omega)
                                      have q260 : 3 < (x10_3.length : Int) := of_decide_eq_true (by first | (with_reducible assumption) | assumption)
                                      obtain ⟨ad260, e260, hx260_0⟩ := Kd.at_int (Kd.R_reads' HO_10.out).2.2 3 p260 q260
                                      obtain rfl : ad257 = ad260 := (by injection e260)
                                      (try simp only [show (3 : Int).toNat = 3 from rfl, Nat.reduceMul, Nat.reduceEqDiff, Go.Addr.add, ↓reduceIte] at hx260_0)
                                      have qi260 : (3 < x10_3.length) = True := eq_true (by omega)
                                      (try rw [show ((3 : Int)).toNat = 3 from rfl] at hx260_0)
                                      replace p260 := eq_true p260
                                      replace q260 := eq_true q260
                                      refine start_ (n := 20) (S := fun w' => w'.cell? ad257 = some (.int .i64 (rd x10_3 0)) ∧ w'.cell? ⟨ad257.block, ad257.off + 1, none⟩ = some (.int .i64 (rd x10_3 1)) ∧ w'.cell? ⟨ad257.block, ad257.off + 2, none⟩ = some (.int .i64 (rd x10_3 2)) ∧ w'.cell? ⟨ad257.block, ad257.off + 3, none⟩ = some (.int .i64 (rd x10_3 3))) (ds := [18]) #[false, false, false, false, false, false, false, false, false, false, false, false, false, false, false, false, false, false, false, false] (by kernel_rfl) rfl rfl ⟨hx257_0, hx258_0, hx259_0, hx260_0⟩ (fun hHeld => ?_); refine with_tabW sprref7_pieces.tab22 sprref7_pieces.bits22 (fun HT_ HW_ => ?_)
                                      generalize wr.drew = w47 at HO_6 HO_7 HO_9 HO_10 HB hx257_0 hx258_0 hx259_0 hx260_0 hHeld ⊢
                                      refine pure_ (i := 0) (N := some 106) (v := ?_) (a' := ?_) #[true, false, false, false, false, false, false, false, false, false, false, false, false, false, false, false, false, false, false, false] rfl rfl (any_of HT_.out (by kernel_rfl)) (fun _ _ _ h => h) (Or.inl ⟨by rfl, ?_⟩) ?_ ?_
                                      rotate_left
                                      · intro w'
                                        go_simp
                                        with_reducible rfl
                                      rotate_left
                                      · simp only [Act.put, List.setIfInBounds_toArray, List.set_cons_zero, List.set_cons_succ, i64_w, i32_w]
                                        rfl
                                      refine pure_ (i := 1) (N := some 107) (v := ?_) (a' := ?_) #[true, true, false, false, false, false, false, false, false, false, false, false, false, false, false, false, false, false, false, false] rfl rfl (any_of HT_.out (by kernel_rfl)) (fun _ _ _ h => h) (Or.inl ⟨by rfl, ?_⟩) ?_ ?_
                                      rotate_left
                                      · intro w'
                                        go_simp
                                        with_reducible rfl
                                      rotate_left
                                      · simp only [Act.put, List.setIfInBounds_toArray, List.set_cons_zero, List.set_cons_succ, i64_w, i32_w]
                                        rfl
                                      refine pure_ (i := 2) (N := some 108) (v := ?_) (a' := ?_) #[true, true, true, false, false, false, false, false, false, false, false, false, false, false, false, false, false, false, false, false] rfl rfl (any_of HT_.out (by kernel_rfl)) (fun _ _ _ h => h) (Or.inl ⟨by rfl, ?_⟩) ?_ ?_
                                      rotate_left
                                      · intro w'
                                        go_simp
                                        with_reducible rfl
                                      rotate_left
                                      · simp only [Act.put, List.setIfInBounds_toArray, List.set_cons_zero, List.set_cons_succ, i64_w, i32_w]
                                        rfl
                                      refine pure_ (i := 5) (N := some 111) (v := ?_) (a' := ?_) #[true, true, true, false, false, true, false, false, false, false, false, false, false, false, false, false, false, false, false, false] rfl rfl (any_of HT_.out (by kernel_rfl)) (fun _ _ _ h => h) (Or.inl ⟨by rfl, ?_⟩) ?_ ?_
                                      rotate_left
                                      · intro w'
                                        go_simp
                                        with_reducible rfl
                                      rotate_left
                                      · simp only [Act.put, List.setIfInBounds_toArray, List.set_cons_zero, List.set_cons_succ, i64_w, i32_w]
                                        rfl
                                      refine pure_ (i := 6) (N := some 112) (v := ?_) (a' := ?_) #[true, true, true, false, false, true, true, false, false, false, false, false, false, false, false, false, false, false, false, false] rfl rfl (any_of HT_.out (by kernel_rfl)) (fun _ _ _ h => h) (Or.inl ⟨by rfl, ?_⟩) ?_ ?_
                                      rotate_left
                                      · intro w'
                                        go_simp
                                        with_reducible rfl
                                      rotate_left
                                      · simp only [Act.put, List.setIfInBounds_toArray, List.set_cons_zero, List.set_cons_succ, i64_w, i32_w]
                                        rfl
                                      refine pure_ (i := 9) (N := some 115) (v := ?_) (a' := ?_) #[true, true, true, false, false, true, true, false, false, true, false, false, false, false, false, false, false, false, false, false] rfl rfl (any_of HT_.out (by kernel_rfl)) (fun _ _ _ h => h) (Or.inl ⟨by rfl, ?_⟩) ?_ ?_
                                      rotate_left
                                      · intro w'
                                        go_simp
                                        with_reducible rfl
                                      rotate_left
                                      · simp only [Act.put, List.setIfInBounds_toArray, List.set_cons_zero, List.set_cons_succ, i64_w, i32_w]
                                        rfl
                                      refine pure_ (i := 10) (N := some 116) (v := ?_) (a' := ?_) #[true, true, true, false, false, true, true, false, false, true, true, false, false, false, false, false, false, false, false, false] rfl rfl (any_of HT_.out (by kernel_rfl)) (fun _ _ _ h => h) (Or.inl ⟨by rfl, ?_⟩) ?_ ?_
                                      rotate_left
                                      · intro w'
                                        go_simp
                                        with_reducible rfl
                                      rotate_left
                                      · simp only [Act.put, List.setIfInBounds_toArray, List.set_cons_zero, List.set_cons_succ, i64_w, i32_w]
                                        rfl
                                      refine pure_ (i := 13) (N := some 119) (v := ?_) (a' := ?_) #[true, true, true, false, false, true, true, false, false, true, true, false, false, true, false, false, false, false, false, false] rfl rfl (any_of HT_.out (by kernel_rfl)) (fun _ _ _ h => h) (Or.inl ⟨by rfl, ?_⟩) ?_ ?_
                                      rotate_left
                                      · intro w'
                                        go_simp
                                        with_reducible rfl
                                      rotate_left
                                      · simp only [Act.put, List.setIfInBounds_toArray, List.set_cons_zero, List.set_cons_succ, i64_w, i32_w]
                                        rfl
                                      refine pure_ (i := 14) (N := some 120) (v := ?_) (a' := ?_) #[true, true, true, false, false, true, true, false, false, true, true, false, false, true, true, false, false, false, false, false] rfl rfl (any_of HT_.out (by kernel_rfl)) (fun _ _ _ h => h) (Or.inl ⟨by rfl, ?_⟩) ?_ ?_
                                      rotate_left
                                      · intro w'
                                        go_simp
                                        with_reducible rfl
                                      rotate_left
                                      · simp only [Act.put, List.setIfInBounds_toArray, List.set_cons_zero, List.set_cons_succ, i64_w, i32_w]
                                        rfl
                                      refine take_ (i := 3) (N := some 109) (v := ?_) (a' := ?_) #[true, true, true, true, false, true, true, false, false, true, true, false, false, true, true, false, false, false, false, false] rfl rfl (take_ofW HT_.out HW_.out (by kernel_rfl)) (fun _ _ _ h => h) (Or.inl ⟨by rfl, ?_⟩) hHeld ?_ ?_
                                      rotate_left
                                      · rintro w' ⟨s0, s1, s2, s3⟩
                                        go_simp
                                        with_reducible rfl
                                      rotate_left
                                      · simp only [Act.put, List.setIfInBounds_toArray, List.set_cons_zero, List.set_cons_succ, i64_w, i32_w]
                                        rfl
                                      refine pure_ (i := 4) (N := some 110) (v := ?_) (a' := ?_) #[true, true, true, true, true, true, true, false, false, true, true, false, false, true, true, false, false, false, false, false] rfl rfl (any_of HT_.out (by kernel_rfl)) (fun _ _ _ h => h) (Or.inl ⟨by rfl, ?_⟩) ?_ ?_
                                      rotate_left
                                      · intro w'
                                        go_simp
                                        with_reducible rfl
                                      rotate_left
                                      · simp only [Act.put, List.setIfInBounds_toArray, List.set_cons_zero, List.set_cons_succ, i64_w, i32_w]
                                        rfl
                                      refine take_ (i := 7) (N := some 113) (v := ?_) (a' := ?_) #[true, true, true, true, true, true, true, true, false, true, true, false, false, true, true, false, false, false, false, false] rfl rfl (take_ofW HT_.out HW_.out (by kernel_rfl)) (fun _ _ _ h => h) (Or.inl ⟨by rfl, ?_⟩) hHeld ?_ ?_
                                      rotate_left
                                      · rintro w' ⟨s0, s1, s2, s3⟩
                                        go_simp
                                        with_reducible rfl
                                      rotate_left
                                      · simp only [Act.put, List.setIfInBounds_toArray, List.set_cons_zero, List.set_cons_succ, i64_w, i32_w]
                                        rfl
                                      refine pure_ (i := 8) (N := some 114) (v := ?_) (a' := ?_) #[true, true, true, true, true, true, true, true, true, true, true, false, false, true, true, false, false, false, false, false] rfl rfl (any_of HT_.out (by kernel_rfl)) (fun _ _ _ h => h) (Or.inl ⟨by rfl, ?_⟩) ?_ ?_
                                      rotate_left
                                      · intro w'
                                        go_simp
                                        with_reducible rfl
                                      rotate_left
                                      · simp only [Act.put, List.setIfInBounds_toArray, List.set_cons_zero, List.set_cons_succ, i64_w, i32_w]
                                        rfl
                                      refine take_ (i := 11) (N := some 117) (v := ?_) (a' := ?_) #[true, true, true, true, true, true, true, true, true, true, true, true, false, true, true, false, false, false, false, false] rfl rfl (take_ofW HT_.out HW_.out (by kernel_rfl)) (fun _ _ _ h => h) (Or.inl ⟨by rfl, ?_⟩) hHeld ?_ ?_
                                      rotate_left
                                      · rintro w' ⟨s0, s1, s2, s3⟩
                                        go_simp
                                        with_reducible rfl
                                      rotate_left
                                      · simp only [Act.put, List.setIfInBounds_toArray, List.set_cons_zero, List.set_cons_succ, i64_w, i32_w]
                                        rfl
                                      refine pure_ (i := 12) (N := some 118) (v := ?_) (a' := ?_) #[true, true, true, true, true, true, true, true, true, true, true, true, true, true, true, false, false, false, false, false] rfl rfl (any_of HT_.out (by kernel_rfl)) (fun _ _ _ h => h) (Or.inl ⟨by rfl, ?_⟩) ?_ ?_
                                      rotate_left
                                      · intro w'
                                        go_simp
                                        with_reducible rfl
                                      rotate_left
                                      · simp only [Act.put, List.setIfInBounds_toArray, List.set_cons_zero, List.set_cons_succ, i64_w, i32_w]
                                        rfl
                                      refine take_ (i := 15) (N := some 121) (v := ?_) (a' := ?_) #[true, true, true, true, true, true, true, true, true, true, true, true, true, true, true, true, false, false, false, false] rfl rfl (take_ofW HT_.out HW_.out (by kernel_rfl)) (fun _ _ _ h => h) (Or.inl ⟨by rfl, ?_⟩) hHeld ?_ ?_
                                      rotate_left
                                      · rintro w' ⟨s0, s1, s2, s3⟩
                                        go_simp
                                        with_reducible rfl
                                      rotate_left
                                      · simp only [Act.put, List.setIfInBounds_toArray, List.set_cons_zero, List.set_cons_succ, i64_w, i32_w]
                                        rfl
                                      refine pure_ (i := 16) (N := some 122) (v := ?_) (a' := ?_) #[true, true, true, true, true, true, true, true, true, true, true, true, true, true, true, true, true, false, false, false] rfl rfl (any_of HT_.out (by kernel_rfl)) (fun _ _ _ h => h) (Or.inl ⟨by rfl, ?_⟩) ?_ ?_
                                      rotate_left
                                      · intro w'
                                        go_simp
                                        with_reducible rfl
                                      rotate_left
                                      · simp only [Act.put, List.setIfInBounds_toArray, List.set_cons_zero, List.set_cons_succ, i64_w, i32_w]
                                        rfl
                                      refine one_ (i := 17) (N := some 123) #[true, true, true, true, true, true, true, true, true, true, true, true, true, true, true, true, true, true, false, false] rfl rfl (one_of HT_.out (by kernel_rfl)) (by decide) (fun K hK => ?_)
                                      refine Kd.R_lit_step (Kd.int .i64) _ 3 ?hg (N := 123) ?hd (xs := ([Go.bits .or .i64 (wrap64 ((rd x10_3 0) * 256)) (rd x10_3 1), Go.bits .or .i64 (wrap64 ((rd x10_3 2) * 256)) (rd x10_3 3)] : List Int)) (inner := [.int .i64 (Go.bits .or .i64 (wrap64 ((rd x10_3 0) * 256)) (rd x10_3 1)), .int .i64 (Go.bits .or .i64 (wrap64 ((rd x10_3 2) * 256)) (rd x10_3 3))]) (ok := fun _ => True) (okp := fun _ => True) ?hr ?hp (fun _ hk => hk) trivial (Below.refl _ _) (Nat.le_refl _) (by simp) ?_; (case hd => rfl); (case hg => rfl); (case hr => first | (go_simp; done) | (go_simp; rfl)); (case hp => exact (Reps.one (show Kd.M (Kd.int .i64) _ _ _ (Go.bits .or .i64 (wrap64 ((rd x10_3 0) * 256)) (rd x10_3 1)) [.int .i64 (Go.bits .or .i64 (wrap64 ((rd x10_3 0) * 256)) (rd x10_3 1))] from rfl) (Reps.one (show Kd.M (Kd.int .i64) _ _ _ (Go.bits .or .i64 (wrap64 ((rd x10_3 2) * 256)) (rd x10_3 3)) [.int .i64 (Go.bits .or .i64 (wrap64 ((rd x10_3 2) * 256)) (rd x10_3 3))] from rfl) (Reps.none _ _))))
                                      intro v262 w49 ho50 hb hg_ hnew_
                                      have HS0_ := (hb.cell (World.block_lt_of_cell? _ _ (hHeld.1))).trans (hHeld.1)
                                      have HS1_ := (hb.cell (World.block_lt_of_cell? _ _ (hHeld.2.1))).trans (hHeld.2.1)
                                      have HS2_ := (hb.cell (World.block_lt_of_cell? _ _ (hHeld.2.2.1))).trans (hHeld.2.2.1)
                                      have HS3_ := (hb.cell (World.block_lt_of_cell? _ _ (hHeld.2.2.2))).trans (hHeld.2.2.2)
                                      clear hg_ hnew_
                                      (first | rw [← Ny261.out] at ho50 | (simp only [Int.reduceToNat] at ho50; rw [← Ny261.out] at ho50))
                                      have n0_ := Aside0.mk (Kd.R_below (by (with_reducible repeat (first | apply Kd.R_alloc | apply Kd.R_drewN | apply Kd.R_drew)); exact HO_6.out) hb)
                                      have n1_ := Aside0.mk (Kd.R_elder' (by (with_reducible repeat (first | apply Kd.R_alloc | apply Kd.R_drewN | apply Kd.R_drew)); exact HO_7.out) (Kd.R_base ho50) hb)
                                      have n2_ := Aside0.mk (Kd.R_below (by (with_reducible repeat (first | apply Kd.R_alloc | apply Kd.R_drewN | apply Kd.R_drew)); exact HO_9.out) hb)
                                      have n3_ := Aside0.mk (Kd.R_elder' (by (with_reducible repeat (first | apply Kd.R_alloc | apply Kd.R_drewN | apply Kd.R_drew)); exact HO_10.out) (Kd.R_base ho50) hb)
                                      have n4_ := Aside0.mk (Kd.R_lower (Kd.R_new' (Kd.R_new' ho50 (Kd.R_lt (by (with_reducible repeat (first | apply Kd.R_alloc | apply Kd.R_drewN | apply Kd.R_drew)); exact HO_7.out))) (Kd.R_lt (by (with_reducible repeat (first | apply Kd.R_alloc | apply Kd.R_drewN | apply Kd.R_drew)); exact HO_10.out))) (below_size (by repeat (first | (with_reducible first | exact HB.out | apply below_alloc | apply pw_below_drewN | apply below_drew1) | exact HB.out))))
                                      have n5_ := Aside0.mk (below_step (by repeat (first | (with_reducible first | exact HB.out | apply below_alloc | apply pw_below_drewN | apply below_drew1) | exact HB.out)) hb)
                                      clear HO_6
                                      clear HO_7
                                      clear HO_9
                                      clear HO_10
                                      clear HB
                                      have HO_6 := n0_
                                      have HO_7 := n1_
                                      have HO_9 := n2_
                                      have HO_10 := n3_
                                      have HO263 := n4_
                                      have HB := n5_
                                      clear n0_ n1_ n2_ n3_ n4_ n5_
                                      clear hb ho50
                                      obtain ⟨Ao52, co52, eo52⟩ := Kd.R_slice HO263.out
                                      (first | subst eo52 | (injection eo52 with f1_ f2_ f3_; have f4_ := f1_.symm; have f5_ := f3_.symm; clear f1_ f2_ f3_; subst f4_; subst f5_))
                                      refine hK.out _ _ ⟨HS0_, HS1_, HS2_, HS3_⟩ (fun hHeld => ?_)
                                      clear hK K
                                      refine norm_ (a' := ?_) ?_ ?_
                                      rotate_left
                                      · show Act.put _ (some 123) _ = _
                                        simp only [Act.put, List.setIfInBounds_toArray, List.set_cons_zero, List.set_cons_succ, i64_w, i32_w]
                                        rfl
                                      refine last_ (i := 18) (N := some 124) #[true, true, true, true, true, true, true, true, true, true, true, true, true, true, true, true, true, true, true, false] rfl rfl (one_of HT_.out (by kernel_rfl)) (by decide) (fun K hK => ?_)
                                      refine Kd.R_append_rows_step (Kd.int .i64) (w0 := w) w.heap.size (by rfl) (.tmp 106) (.tmp 123) 53 3 (.int .i64 0) 8 rfl Tryd.underlying53 info3 rfl (by decide) (by omega) u7 x7_1 y261 _ _ _ (fun k_ => some k_ ≠ (.slice (some ad257) x10_3.length co48 : Value).ownBlock ∧ some k_ ≠ (.slice Ao52 y261.length co52 : Value).ownBlock) (fun _ => False) rfl rfl ?aO ?aR (fun _ _ h => h) (fun _ h => h.elim) ?aF ?aB ?aS ?aL ?_
                                      (case aR => repeat (first | exact (Kd.R_reads' HO263.out).2.2 | (with_reducible refine Kd.C_alloc ?_ _) | (with_reducible refine Kd.C_drewN ?_ _) | (with_reducible refine Kd.C_drew ?_)))
                                      (case aB => exact (by repeat (first | (with_reducible first | exact HB.out | apply below_alloc | apply pw_below_drewN | apply below_drew1) | exact HB.out)))
                                      (case aF => exact (fun k_ hk => ⟨Kd.fresh' (Kd.R_lt (by (with_reducible repeat (first | apply Kd.R_alloc | apply Kd.R_drewN | apply Kd.R_drew)); exact HO_10.out)) k_ hk, Kd.fresh' (Kd.R_lt (by (with_reducible repeat (first | apply Kd.R_alloc | apply Kd.R_drewN | apply Kd.R_drew)); exact HO263.out)) k_ hk⟩))
                                      (case aO => exact (by (with_reducible repeat (first | apply Kd.R_alloc | apply Kd.R_drewN | apply Kd.R_drew)); exact HO_7.out))
                                      (case aS => exact (below_size (by repeat (first | (with_reducible first | exact HB.out | apply below_alloc | apply pw_below_drewN | apply below_drew1) | exact HB.out))))
                                      (case aL => have := LMc46.out; omega)
                                      intro v265 w51 ho hb hg hat
                                      rw [← Ny264.out] at ho
                                      have n0_ := Aside0.mk (Kd.R_over' (by (with_reducible repeat (first | apply Kd.R_alloc | apply Kd.R_drewN | apply Kd.R_drew)); exact HO_6.out) (Kd.R_typed (by (with_reducible repeat (first | apply Kd.R_alloc | apply Kd.R_drewN | apply Kd.R_drew)); exact HO_7.out)) (by decide) hg)
                                      have n1_ := Aside0.mk (Kd.R_over' (by (with_reducible repeat (first | apply Kd.R_alloc | apply Kd.R_drewN | apply Kd.R_drew)); exact HO_9.out) (Kd.R_typed (by (with_reducible repeat (first | apply Kd.R_alloc | apply Kd.R_drewN | apply Kd.R_drew)); exact HO_7.out)) (by decide) hg)
                                      have n2_ := Aside0.mk (Kd.R_after (ok := (fun k_ => some k_ ≠ (.slice Ao52 y261.length co52 : Value).ownBlock)) (by (with_reducible repeat (first | apply Kd.R_alloc | apply Kd.R_drewN | apply Kd.R_drew)); exact Kd.R_mono HO_10.out (fun _ hk => ⟨hk.2, hk.1⟩)) hg hat)
                                      have n3_ := Aside0.mk (Kd.R_after (ok := (fun k_ => some k_ ≠ (.slice (some ad257) x10_3.length co48 : Value).ownBlock)) (by (with_reducible repeat (first | apply Kd.R_alloc | apply Kd.R_drewN | apply Kd.R_drew)); exact Kd.R_mono HO263.out (fun _ hk => ⟨hk.2, hk.1.2⟩)) hg hat)
                                      have n4_ := Aside0.mk (hb)
                                      have n5_ := Aside0.mk (ho)
                                      clear HO_6
                                      clear HO_9
                                      clear HO_10
                                      clear HO263
                                      clear HB
                                      clear HO_7
                                      have HO_6 := n0_
                                      have HO_9 := n1_
                                      have HO_10 := n2_
                                      have HO263 := n3_
                                      have HB := n4_
                                      have HO266 := n5_
                                      clear n0_ n1_ n2_ n3_ n4_ n5_
                                      clear ho hb hg hat
                                      refine hK.out _ _ ?_
                                      clear hK K
                                      refine norm_ (a' := ?_) ?_ ?_
                                      rotate_left
                                      · show Act.put _ (some 124) _ = _
                                        simp only [Act.put, List.setIfInBounds_toArray, List.set_cons_zero, List.set_cons_succ, i64_w, i32_w]
                                        rfl
                                      refine pure_ (i := 19) (N := some 7) (v := ?_) (a' := ?_) #[true, true, true, true, true, true, true, true, true, true, true, true, true, true, true, true, true, true, true, true] rfl rfl (any_of HT_.out (by kernel_rfl)) (fun _ _ _ h => h) (Or.inl ⟨by rfl, ?_⟩) ?_ ?_
                                      rotate_left
                                      · intro w'
                                        go_simp
                                        with_reducible rfl
                                      rotate_left
                                      · simp only [Act.put, List.setIfInBounds_toArray, List.set_cons_zero, List.set_cons_succ, i64_w, i32_w]
                                        rfl
                                      refine done_ (done_of HT_.out (by kernel_rfl)) ?_
                                      try go_wp2
                                      go_roundg k3
                                      case measure => have := HK1.out; have := HJ6.out; have := HK3.out; omega
                                      case rel => exact ⟨(y264), (wrap64 (x8_1 + 1)), (by first | rfl | (simp; done) | (simp [*]; done)), H', ⟨by have := HK1.out; have := HJ6.out; have := HK3.out; omega⟩, ⟨by (with_reducible repeat (first | apply Kd.R_alloc | apply Kd.R_drewN | apply Kd.R_drew)); exact Kd.R_mono HO_6.out (fun _ hk => trivial)⟩, ⟨by (with_reducible repeat (first | apply Kd.R_alloc | apply Kd.R_drewN | apply Kd.R_drew)); exact Kd.R_mono HO266.out (fun _ hk => trivial)⟩, ⟨by repeat (first | (with_reducible first | exact HB.out | apply below_alloc | apply pw_below_drewN | apply below_drew1) | exact HB.out)⟩⟩
                                    · rw [if_neg c46] at H
                                      exact absurd H (by simp)
                                  · rw [if_neg c45] at H
                                    exact absurd H (by simp)
                                · rw [if_neg c44] at H
                                  exact absurd H (by simp)
                              · rw [if_neg c43] at H
                                exact absurd H (by simp)
                            · rw [if_neg c42] at H
                              exact absurd H (by simp)
                    · rw [if_neg c19] at H
                      have c19b0 : ((t254.length : Int) == 4) = false := beq_eq_false_iff_ne.mpr c19
                      have c19b1 : ((t254.length : Int) != 4) = true := bne_iff_ne.mpr c19
                      simp only [Option.some.injEq, Prod.mk.injEq] at H
                      obtain ⟨rfl, rfl⟩ := H
                      have p253 : 0 ≤ (x8_1 : Int) := of_decide_eq_true (by first | (with_reducible assumption) | assumption)
                      have q253 : x8_1 < (t246.length : Int) := of_decide_eq_true (by first | (with_reducible assumption) | assumption)
                      obtain ⟨ad253, e253, hx253_0⟩ := Kd.at_string (Kd.R_reads' HO_6.out).2.2 x8_1 p253 q253
                      cases e253
                      replace p253 := eq_true p253
                      replace q253 := eq_true q253
                      go_wp2_with (first | ((with_reducible refine gate_callee (f := 43) rfl ?_); refine goesL_ (some 47) rfl rfl Tryd.func43 (by kernel_rfl) rfl #[.string (rdOf ByteArray.empty t246 x8_1), .int .u8 46] rfl (by (try simp only [List.map_toArray, List.map_cons, List.map_nil]); first | done | rfl | (simp only [List.length_drop, List.length_take]; rfl)) ?_; (with_reducible refine (sprref_Split.calls kj6 (rdOf ByteArray.empty t246 x8_1) 46 t254 _ A18.out).mono ?_); rintro e w53 ⟨v255, rfl, ho0, hb⟩; refine ⟨_, rfl, ?_⟩; have n0_ := Aside0.mk (Kd.R_elder' (by (with_reducible repeat (first | apply Kd.R_alloc | apply Kd.R_drewN | apply Kd.R_drew)); exact HO_6.out) (Kd.R_base ho0) hb); have n1_ := Aside0.mk (Kd.R_below (by (with_reducible repeat (first | apply Kd.R_alloc | apply Kd.R_drewN | apply Kd.R_drew)); exact HO_7.out) hb); have n2_ := Aside0.mk (Kd.R_lower (Kd.R_new' ho0 (Kd.R_lt (by (with_reducible repeat (first | apply Kd.R_alloc | apply Kd.R_drewN | apply Kd.R_drew)); exact HO_6.out))) (below_size (by repeat (first | (with_reducible first | exact HB.out | apply below_alloc | apply pw_below_drewN | apply below_drew1) | exact HB.out)))); have n3_ := Aside0.mk (below_step (by repeat (first | (with_reducible first | exact HB.out | apply below_alloc | apply pw_below_drewN | apply below_drew1) | exact HB.out)) hb); clear HO_6; clear HO_7; clear HB; have HO_6 := n0_; have HO_7 := n1_; have HO256 := n2_; have HB := n3_; clear n0_ n1_ n2_ n3_; (try clear hb); (try clear hb2); (try clear hk); (try clear hi); (try clear ho0); obtain ⟨Ao54, co54, eo54⟩ := Kd.R_slice HO256.out; subst eo54))
                      go_ret2
                      exact ⟨_, by first | rfl | (simp [errW_none, errW_some] <;> rfl) | (simp [*, errW_none, errW_some] <;> rfl), by first | exact Kd.R_nil _ _ _ _ _ | exact Kd.N_nil _ _ _ _ _ | exact Kd.V_nil _ _ _ _ _ | exact Kd.Q_nil _ _ _ _ _ | exact Kd.S_nil _ _ _ _ _, by repeat (first | (with_reducible first | exact HB.out | apply below_alloc | apply pw_below_drewN | apply below_drew1) | exact HB.out)⟩
                  · rw [if_neg c17] at H
                    exact absurd H (by simp)
                · rw [if_neg c16] at H
                  exact absurd H (by simp)
              · replace c15 := Bool.eq_false_iff.mpr c15
                subst c15
                have H1 : (if 0 ≤ x8_1 then (if x8_1 < (t246.length : Int) then (if (rdOf ByteArray.empty t246 x8_1).toList = ([] : List UInt8) then (sprref7_pieces.j4 kj6 a1 t246 x7_1 x8_1 true) else (if ((rdOf ByteArray.empty t246 x8_1).size : Int) > 4 then (sprref7_pieces.j4 kj6 a1 t246 x7_1 x8_1 true) else ((sprref7_digits.f kj6 (rdOf ByteArray.empty t246 x8_1) 16).bind fun t282 => (sprref7_pieces.j4 kj6 a1 t246 x7_1 x8_1 (!t282))))) else (none)) else (none)) = some (r1, r2) := by rw [if_neg (show ¬ (false = true) by decide)] at H; exact H
                clear H
                have H := H1
                clear H1
                have HC55 := Aside0.mk H
                clear H
                go_upto_region 23 with (fail)
                go_cut [145] (fun v145 wc => ∃ (kq : Nat) (x145_54 : Bool), v145 = .bool x145_54 ∧ Aside0 (sprref7_pieces.j4 kq a1 t246 x7_1 x8_1 x145_54 = some (r1, r2)) ∧ Aside0 (kq ≤ kj6) ∧ Aside0 (Kd.R Kd.string 9 wc w.heap.size (fun _ => True) (.slice Ao8 t246.length co8) t246) ∧ Aside0 (Kd.R (Kd.int .i64) 3 wc w.heap.size (fun _ => True) u7 x7_1) ∧ Aside0 (Below w.heap.size w wc))
                case first =>
                  have H := HC55.out
                  clear HC55
                  by_cases c56 : 0 ≤ x8_1
                  · rw [if_pos c56] at H
                    have c56b0 : decide (0 ≤ x8_1) = true := decide_eq_true c56
                    clear c56
                    (first | rw [c56b0] | (simp only [i64_w, i32_w]; rw [c56b0]) | skip)
                    by_cases c57 : x8_1 < (t246.length : Int)
                    · rw [if_pos c57] at H
                      have c57b0 : decide (x8_1 < (t246.length : Int)) = true := decide_eq_true c57
                      clear c57
                      by_cases c58 : (rdOf ByteArray.empty t246 x8_1).toList = ([] : List UInt8)
                      · rw [if_pos c58] at H
                        have c58b0 : ((rdOf ByteArray.empty t246 x8_1).toList == ([] : List UInt8)) = true := beq_iff_eq.mpr c58
                        have c58b1 : ((rdOf ByteArray.empty t246 x8_1).toList != ([] : List UInt8)) = false := bne_eq_false_iff_eq.mpr c58
                        clear c58
                        have H' := Aside0.mk H
                        clear H
                        have p279 : 0 ≤ (x8_1 : Int) := of_decide_eq_true (by first | (with_reducible assumption) | assumption)
                        have q279 : x8_1 < (t246.length : Int) := of_decide_eq_true (by first | (with_reducible assumption) | assumption)
                        obtain ⟨ad279, e279, hx279_0⟩ := Kd.at_string (Kd.R_reads' HO_6.out).2.2 x8_1 p279 q279
                        cases e279
                        replace p279 := eq_true p279
                        replace q279 := eq_true q279
                        go_wp2
                        go_meet
                        case rel => exact ⟨_, (true), (by first | rfl | (simp; done) | (simp [*]; done)), H', ⟨by have := HK1.out; have := HJ6.out; first | omega | exact Nat.le_refl _⟩, ⟨by (with_reducible repeat (first | apply Kd.R_alloc | apply Kd.R_drewN | apply Kd.R_drew)); exact HO_6.out⟩, ⟨by (with_reducible repeat (first | apply Kd.R_alloc | apply Kd.R_drewN | apply Kd.R_drew)); exact HO_7.out⟩, ⟨by repeat (first | (with_reducible first | exact HB.out | apply below_alloc | apply pw_below_drewN | apply below_drew1) | exact HB.out)⟩⟩
                      · rw [if_neg c58] at H
                        have c58b0 : ((rdOf ByteArray.empty t246 x8_1).toList == ([] : List UInt8)) = false := beq_eq_false_iff_ne.mpr c58
                        have c58b1 : ((rdOf ByteArray.empty t246 x8_1).toList != ([] : List UInt8)) = true := bne_iff_ne.mpr c58
                        by_cases c59 : ((rdOf ByteArray.empty t246 x8_1).size : Int) > 4
                        · rw [if_pos c59] at H
                          have c59b0 : decide (4 < ((rdOf ByteArray.empty t246 x8_1).size : Int)) = true := decide_eq_true c59
                          have c59b1 : decide (4 < (rdOf ByteArray.empty t246 x8_1).size) = true := decide_eq_true (by omega)
                          clear c59
                          have H' := Aside0.mk H
                          clear H
                          have p279 : 0 ≤ (x8_1 : Int) := of_decide_eq_true (by first | (with_reducible assumption) | assumption)
                          have q279 : x8_1 < (t246.length : Int) := of_decide_eq_true (by first | (with_reducible assumption) | assumption)
                          obtain ⟨ad279, e279, hx279_0⟩ := Kd.at_string (Kd.R_reads' HO_6.out).2.2 x8_1 p279 q279
                          cases e279
                          replace p279 := eq_true p279
                          replace q279 := eq_true q279
                          have p280 : 0 ≤ (x8_1 : Int) := of_decide_eq_true (by first | (with_reducible assumption) | assumption)
                          have q280 : x8_1 < (t246.length : Int) := of_decide_eq_true (by first | (with_reducible assumption) | assumption)
                          obtain ⟨ad280, e280, hx280_0⟩ := Kd.at_string (Kd.R_reads' HO_6.out).2.2 x8_1 p280 q280
                          obtain rfl : ad279 = ad280 := (by injection e280)
                          replace p280 := eq_true p280
                          replace q280 := eq_true q280
                          go_wp2
                          go_meet
                          case rel => exact ⟨_, (true), (by first | rfl | (simp; done) | (simp [*]; done)), H', ⟨by have := HK1.out; have := HJ6.out; first | omega | exact Nat.le_refl _⟩, ⟨by (with_reducible repeat (first | apply Kd.R_alloc | apply Kd.R_drewN | apply Kd.R_drew)); exact HO_6.out⟩, ⟨by (with_reducible repeat (first | apply Kd.R_alloc | apply Kd.R_drewN | apply Kd.R_drew)); exact HO_7.out⟩, ⟨by repeat (first | (with_reducible first | exact HB.out | apply below_alloc | apply pw_below_drewN | apply below_drew1) | exact HB.out)⟩⟩
                        · rw [if_neg c59] at H
                          have c59b0 : decide (4 < ((rdOf ByteArray.empty t246 x8_1).size : Int)) = false := decide_eq_false c59
                          have c59b1 : decide (4 < (rdOf ByteArray.empty t246 x8_1).size) = false := decide_eq_false (by omega)
                          clear c59
                          replace H := Option.bind_eq_some_iff.mp H
                          obtain ⟨t282, A600, H⟩ := H
                          replace H : (sprref7_pieces.j4 kj6 a1 t246 x7_1 x8_1 (!t282)) = some (r1, r2) := H
                          have A60 := Aside0.mk A600
                          clear A600
                          have H' := Aside0.mk H
                          clear H
                          have p279 : 0 ≤ (x8_1 : Int) := of_decide_eq_true (by first | (with_reducible assumption) | assumption)
                          have q279 : x8_1 < (t246.length : Int) := of_decide_eq_true (by first | (with_reducible assumption) | assumption)
                          obtain ⟨ad279, e279, hx279_0⟩ := Kd.at_string (Kd.R_reads' HO_6.out).2.2 x8_1 p279 q279
                          cases e279
                          replace p279 := eq_true p279
                          replace q279 := eq_true q279
                          have p280 : 0 ≤ (x8_1 : Int) := of_decide_eq_true (by first | (with_reducible assumption) | assumption)
                          have q280 : x8_1 < (t246.length : Int) := of_decide_eq_true (by first | (with_reducible assumption) | assumption)
                          obtain ⟨ad280, e280, hx280_0⟩ := Kd.at_string (Kd.R_reads' HO_6.out).2.2 x8_1 p280 q280
                          obtain rfl : ad279 = ad280 := (by injection e280)
                          replace p280 := eq_true p280
                          replace q280 := eq_true q280
                          have p281 : 0 ≤ (x8_1 : Int) := of_decide_eq_true (by first | (with_reducible assumption) | assumption)
                          have q281 : x8_1 < (t246.length : Int) := of_decide_eq_true (by first | (with_reducible assumption) | assumption)
                          obtain ⟨ad281, e281, hx281_0⟩ := Kd.at_string (Kd.R_reads' HO_6.out).2.2 x8_1 p281 q281
                          obtain rfl : ad279 = ad281 := (by injection e281)
                          replace p281 := eq_true p281
                          replace q281 := eq_true q281
                          go_wp2_with (first | (go_at_call 31; (with_reducible refine (sprref7_digits.calls kj6 (rdOf ByteArray.empty t246 x8_1) 16 t282 _ A60.out).mono ?_); rintro e w' ⟨rfl, ⟨nd, rfl⟩⟩))
                          go_meet
                          case rel => exact ⟨_, (!t282), (by first | rfl | (simp; done) | (simp [*]; done)), H', ⟨by have := HK1.out; have := HJ6.out; first | omega | exact Nat.le_refl _⟩, ⟨by (with_reducible repeat (first | apply Kd.R_alloc | apply Kd.R_drewN | apply Kd.R_drew)); exact HO_6.out⟩, ⟨by (with_reducible repeat (first | apply Kd.R_alloc | apply Kd.R_drewN | apply Kd.R_drew)); exact HO_7.out⟩, ⟨by repeat (first | (with_reducible first | exact HB.out | apply below_alloc | apply pw_below_drewN | apply below_drew1) | exact HB.out)⟩⟩
                    · rw [if_neg c57] at H
                      exact absurd H (by simp)
                  · rw [if_neg c56] at H
                    exact absurd H (by simp)
                case rest =>
                  clear HC55
                  try clear c1
                  try clear c2
                  try clear p2
                  try clear q2
                  try clear hx2
                  try clear qi2
                  try clear c3
                  try clear p3
                  try clear q3
                  try clear hx3
                  try clear qi3
                  try clear c4
                  try clear c5
                  try clear p6
                  try clear c10
                  try clear c10b0
                  try clear c10b1
                  try clear c11
                  try clear c11b0
                  try clear c15
                  try clear c16
                  try clear c16b0
                  try clear c17
                  try clear c17b0
                  try clear c19
                  try clear c19b0
                  try clear c19b1
                  try clear c22
                  try clear c22b0
                  try clear c24
                  try clear c24b0
                  try clear p24
                  try clear q24
                  try clear hx24
                  try clear c25
                  try clear c25b0
                  try clear p25
                  try clear q25
                  try clear hx25
                  try clear qi25
                  try clear c26
                  try clear c26b0
                  try clear c26b1
                  try clear p26
                  try clear q26
                  try clear hx26
                  try clear qi26
                  try clear c27
                  try clear c27b0
                  try clear c27b1
                  try clear p27
                  try clear q27
                  try clear hx27
                  try clear c28
                  try clear p28
                  try clear q28
                  try clear hx28
                  try clear c29
                  try clear c30
                  try clear c30b0
                  try clear c30b1
                  try clear c31
                  try clear c31b0
                  try clear c31b1
                  try clear p32
                  try clear q32
                  try clear hx32
                  try clear qi32
                  try clear c33
                  try clear c34
                  try clear c34b0
                  try clear c35
                  try clear c35b0
                  try clear c37
                  try clear c37b0
                  try clear c39
                  try clear c42
                  try clear c42b0
                  try clear c42b1
                  try clear c43
                  try clear c43b0
                  try clear c43b1
                  try clear c44
                  try clear c44b0
                  try clear c44b1
                  try clear c45
                  try clear c45b0
                  try clear c45b1
                  try clear c46
                  try clear c56
                  try clear c56b0
                  try clear c57
                  try clear c57b0
                  try clear c58
                  try clear c58b0
                  try clear c58b1
                  try clear c59
                  try clear c59b0
                  try clear c59b1
                  try clear hx249_0
                  try clear hx253_0
                  try clear hx257_0
                  try clear hx258_0
                  try clear hx259_0
                  try clear hx260_0
                  try clear hx267_0
                  try clear hx268_0
                  try clear hx269_0
                  try clear hx271_0
                  try clear hx272_0
                  try clear hx273_0
                  try clear hx279_0
                  try clear hx280_0
                  try clear hx281_0
                  try clear p2
                  try clear p24
                  try clear p249
                  try clear p25
                  try clear p253
                  try clear p257
                  try clear p258
                  try clear p259
                  try clear p26
                  try clear p260
                  try clear p267
                  try clear p268
                  try clear p269
                  try clear p27
                  try clear p271
                  try clear p272
                  try clear p273
                  try clear p279
                  try clear p280
                  try clear p281
                  try clear p32
                  try clear p6
                  try clear q2
                  try clear q24
                  try clear q249
                  try clear q25
                  try clear q253
                  try clear q257
                  try clear q258
                  try clear q259
                  try clear q26
                  try clear q260
                  try clear q267
                  try clear q268
                  try clear q269
                  try clear q27
                  try clear q271
                  try clear q272
                  try clear q273
                  try clear q279
                  try clear q280
                  try clear q281
                  try clear q32
                  obtain ⟨kq, x145_54, rfl, HA, HJ54, HO_6, HO_7, HB⟩ := hcut
                  cases kq with
                  | zero => exact absurd HA.out (by simp [sprref7_pieces.j4])
                  | succ kj54 =>
                    have H := HA.out
                    clear HA
                    simp only [sprref7_pieces.j4] at H
                    by_cases c61 : x145_54 = true
                    · subst c61
                      have H1 : (some (([] : List Int), false)) = some (r1, r2) := by rw [if_pos rfl] at H; exact H
                      clear H
                      have H := H1
                      clear H1
                      simp only [Option.some.injEq, Prod.mk.injEq] at H
                      obtain ⟨rfl, rfl⟩ := H
                      go_wp2
                      go_ret2
                      exact ⟨_, by first | rfl | (simp [errW_none, errW_some] <;> rfl) | (simp [*, errW_none, errW_some] <;> rfl), by first | exact Kd.R_nil _ _ _ _ _ | exact Kd.N_nil _ _ _ _ _ | exact Kd.V_nil _ _ _ _ _ | exact Kd.Q_nil _ _ _ _ _ | exact Kd.S_nil _ _ _ _ _, by repeat (first | (with_reducible first | exact HB.out | apply below_alloc | apply pw_below_drewN | apply below_drew1) | exact HB.out)⟩
                    · replace c61 := Bool.eq_false_iff.mpr c61
                      subst c61
                      have H1 : (sprref7_pieces.l2 kj54 a1 t246 x7_1 x8_1 0 0) = some (r1, r2) := by rw [if_neg (show ¬ (false = true) by decide)] at H; exact H
                      clear H
                      have H := H1
                      clear H1
                      have H' := Aside0.mk H
                      clear H
                      go_wp2
                      go_loopg [14, 15] kj54 (fun kq v14 v15 w' => ∃ (x14_4 : Int) (x15_4 : Int), v14 = .int .i64 x14_4 ∧ v15 = .int .i64 x15_4 ∧ Aside0 (sprref7_pieces.l2 kq a1 t246 x7_1 x8_1 x14_4 x15_4 = some (r1, r2)) ∧ Aside0 (kq ≤ kj54) ∧ Aside0 (Kd.R Kd.string 9 w' w.heap.size (fun _ => True) (.slice Ao8 t246.length co8) t246) ∧ Aside0 (Kd.R (Kd.int .i64) 3 w' w.heap.size (fun _ => True) u7 x7_1) ∧ Aside0 (Below w.heap.size w w'))
                      case atStart => exact ⟨(0), (0), (by first | rfl | (simp; done) | (simp [*]; done)), (by first | rfl | (simp; done) | (simp [*]; done)), H', ⟨Nat.le_refl _⟩, ⟨by (with_reducible repeat (first | apply Kd.R_alloc | apply Kd.R_drewN | apply Kd.R_drew)); exact HO_6.out⟩, ⟨by (with_reducible repeat (first | apply Kd.R_alloc | apply Kd.R_drewN | apply Kd.R_drew)); exact HO_7.out⟩, ⟨by repeat (first | (with_reducible first | exact HB.out | apply below_alloc | apply pw_below_drewN | apply below_drew1) | exact HB.out)⟩⟩
                      case round =>
                        clear H'
                        try clear c1
                        try clear c2
                        try clear p2
                        try clear q2
                        try clear hx2
                        try clear qi2
                        try clear c3
                        try clear p3
                        try clear q3
                        try clear hx3
                        try clear qi3
                        try clear c4
                        try clear c5
                        try clear c6
                        try clear p6
                        try clear c10
                        try clear c10b0
                        try clear c10b1
                        try clear c11
                        try clear c11b0
                        try clear c15
                        try clear c16
                        try clear c16b0
                        try clear c17
                        try clear c17b0
                        try clear c19
                        try clear c19b0
                        try clear c19b1
                        try clear c22
                        try clear c22b0
                        try clear c24
                        try clear c24b0
                        try clear p24
                        try clear q24
                        try clear hx24
                        try clear c25
                        try clear c25b0
                        try clear p25
                        try clear q25
                        try clear hx25
                        try clear qi25
                        try clear c26
                        try clear c26b0
                        try clear c26b1
                        try clear p26
                        try clear q26
                        try clear hx26
                        try clear qi26
                        try clear c27
                        try clear c27b0
                        try clear c27b1
                        try clear p27
                        try clear q27
                        try clear hx27
                        try clear c28
                        try clear p28
                        try clear q28
                        try clear hx28
                        try clear c29
                        try clear c30
                        try clear c30b0
                        try clear c30b1
                        try clear c31
                        try clear c31b0
                        try clear c31b1
                        try clear p32
                        try clear q32
                        try clear hx32
                        try clear qi32
                        try clear c33
                        try clear c34
                        try clear c34b0
                        try clear c35
                        try clear c35b0
                        try clear c37
                        try clear c37b0
                        try clear c39
                        try clear c42
                        try clear c42b0
                        try clear c42b1
                        try clear c43
                        try clear c43b0
                        try clear c43b1
                        try clear c44
                        try clear c44b0
                        try clear c44b1
                        try clear c45
                        try clear c45b0
                        try clear c45b1
                        try clear c46
                        try clear c56
                        try clear c56b0
                        try clear c57
                        try clear c57b0
                        try clear c58
                        try clear c58b0
                        try clear c58b1
                        try clear c59
                        try clear c59b0
                        try clear c59b1
                        try clear c61
                        try clear hx249_0
                        try clear hx253_0
                        try clear hx257_0
                        try clear hx258_0
                        try clear hx259_0
                        try clear hx260_0
                        try clear hx267_0
                        try clear hx268_0
                        try clear hx269_0
                        try clear hx271_0
                        try clear hx272_0
                        try clear hx273_0
                        try clear hx279_0
                        try clear hx280_0
                        try clear hx281_0
                        try clear p2
                        try clear p24
                        try clear p249
                        try clear p25
                        try clear p253
                        try clear p257
                        try clear p258
                        try clear p259
                        try clear p26
                        try clear p260
                        try clear p267
                        try clear p268
                        try clear p269
                        try clear p27
                        try clear p271
                        try clear p272
                        try clear p273
                        try clear p279
                        try clear p28
                        try clear p280
                        try clear p281
                        try clear p3
                        try clear p32
                        try clear p6
                        try clear q2
                        try clear q24
                        try clear q249
                        try clear q25
                        try clear q253
                        try clear q257
                        try clear q258
                        try clear q259
                        try clear q26
                        try clear q260
                        try clear q267
                        try clear q268
                        try clear q269
                        try clear q27
                        try clear q271
                        try clear q272
                        try clear q273
                        try clear q279
                        try clear q28
                        try clear q280
                        try clear q281
                        try clear q3
                        try clear q32
                        obtain ⟨x14_4, x15_4, rfl, rfl, HA, HK4, HO_6, HO_7, HB⟩ := hrel
                        cases gk with
                        | zero => exact absurd HA.out (by simp [sprref7_pieces.l2])
                        | succ k4 =>
                          have H := HA.out
                          clear HA
                          simp only [sprref7_pieces.l2] at H
                          by_cases c62 : 0 ≤ x8_1
                          · rw [if_pos c62] at H
                            have c62b0 : decide (0 ≤ x8_1) = true := decide_eq_true c62
                            clear c62
                            by_cases c63 : x8_1 < (t246.length : Int)
                            · rw [if_pos c63] at H
                              have c63b0 : decide (x8_1 < (t246.length : Int)) = true := decide_eq_true c63
                              clear c63
                              by_cases c64 : x15_4 < ((rdOf ByteArray.empty t246 x8_1).size : Int)
                              · rw [if_pos c64] at H
                                have c64b0 : decide (x15_4 < ((rdOf ByteArray.empty t246 x8_1).size : Int)) = true := decide_eq_true c64
                                clear c64
                                by_cases c65 : 0 ≤ x15_4
                                · rw [if_pos c65] at H
                                  have c65b0 : decide (0 ≤ x15_4) = true := decide_eq_true c65
                                  clear c65
                                  replace H := Option.bind_eq_some_iff.mp H
                                  obtain ⟨t285, A670, H⟩ := H
                                  replace H : (sprref7_pieces.l2 k4 a1 t246 x7_1 x8_1 (Go.bits .or .i64 (wrap64 (x14_4 * 16)) t285) (wrap64 (x15_4 + 1))) = some (r1, r2) := H
                                  have A67 := Aside0.mk A670
                                  clear A670
                                  have H' := Aside0.mk H
                                  clear H
                                  have p283 : 0 ≤ (x8_1 : Int) := of_decide_eq_true (by first | (with_reducible assumption) | assumption)
                                  have q283 : x8_1 < (t246.length : Int) := of_decide_eq_true (by first | (with_reducible assumption) | assumption)
                                  obtain ⟨ad283, e283, hx283_0⟩ := Kd.at_string (Kd.R_reads' HO_6.out).2.2 x8_1 p283 q283
                                  cases e283
                                  replace p283 := eq_true p283
                                  replace q283 := eq_true q283
                                  have p284 : 0 ≤ (x8_1 : Int) := of_decide_eq_true (by first | (with_reducible assumption) | assumption)
                                  have q284 : x8_1 < (t246.length : Int) := of_decide_eq_true (by first | (with_reducible assumption) | assumption)
                                  obtain ⟨ad284, e284, hx284_0⟩ := Kd.at_string (Kd.R_reads' HO_6.out).2.2 x8_1 p284 q284
                                  obtain rfl : ad283 = ad284 := (by injection e284)
                                  replace p284 := eq_true p284
                                  replace q284 := eq_true q284
                                  have p66 : 0 ≤ (x15_4 : Int) := of_decide_eq_true (by first | (with_reducible assumption) | assumption)
                                  have q66 : x15_4 < ((rdOf ByteArray.empty t246 x8_1).size : Int) := of_decide_eq_true (by first | (with_reducible assumption) | assumption)
                                  have hx66 := bt_at (rdOf ByteArray.empty t246 x8_1) x15_4
                                  replace p66 := eq_true p66
                                  replace q66 := eq_true q66
                                  go_wp2_with (first | ((with_reducible refine gate_callee (f := 44) rfl ?_); refine goesL_ (some 163) rfl rfl Tryd.func44 (by kernel_rfl) rfl #[.int .u8 (bt (rdOf ByteArray.empty t246 x8_1) x15_4)] rfl (by (try simp only [List.map_toArray, List.map_cons, List.map_nil]); first | done | rfl | (simp only [List.length_drop, List.length_take]; rfl)) ?_; (with_reducible refine (sprref1_Digit.calls k4 (bt (rdOf ByteArray.empty t246 x8_1) x15_4) t285 _ A67.out).mono ?_); rintro e w' ⟨rfl, ⟨nd, rfl⟩⟩; refine ⟨_, rfl, ?_⟩))
                                  go_roundg k4
                                  case measure => have := HK1.out; have := HJ6.out; have := HJ54.out; have := HK4.out; omega
                                  case rel => exact ⟨(Go.bits .or .i64 (wrap64 (x14_4 * 16)) t285), (wrap64 (x15_4 + 1)), (by first | rfl | (simp; done) | (simp [*]; done)), (by first | rfl | (simp; done) | (simp [*]; done)), H', ⟨by have := HK1.out; have := HJ6.out; have := HJ54.out; have := HK4.out; omega⟩, ⟨by (with_reducible repeat (first | apply Kd.R_alloc | apply Kd.R_drewN | apply Kd.R_drew)); exact HO_6.out⟩, ⟨by (with_reducible repeat (first | apply Kd.R_alloc | apply Kd.R_drewN | apply Kd.R_drew)); exact HO_7.out⟩, ⟨by repeat (first | (with_reducible first | exact HB.out | apply below_alloc | apply pw_below_drewN | apply below_drew1) | exact HB.out)⟩⟩
                                · rw [if_neg c65] at H
                                  exact absurd H (by simp)
                              · rw [if_neg c64] at H
                                have c64b0 : decide (x15_4 < ((rdOf ByteArray.empty t246 x8_1).size : Int)) = false := decide_eq_false c64
                                clear c64
                                by_cases c68 : x7_1.length < 17592186044416
                                · rw [if_pos c68] at H
                                  have LMc68 := Aside0.mk c68
                                  clear c68
                                  obtain ⟨y286, hy286⟩ : ∃ y_ : List Int, y_ = (x7_1 ++ [x14_4]) := ⟨_, rfl⟩
                                  replace H : (sprref7_pieces.l0 k4 a1 t246 y286 (wrap64 (x8_1 + 1))) = some (r1, r2) := by first | (rw [hy286]; with_reducible exact H) | (have H2_ := (Option.bind_some _ _).symm.trans H; rw [hy286]; with_reducible exact H2_) | (have H2_ := (Option.bind_some _ _).symm.trans H; with_reducible exact H2_) | with_reducible exact H | (rw [hy286]; exact H) | exact H
                                  have Ny286 := Aside0.mk hy286
                                  clear hy286
                                  have H' := Aside0.mk H
                                  clear H
                                  have p283 : 0 ≤ (x8_1 : Int) := of_decide_eq_true (by first | (with_reducible assumption) | assumption)
                                  have q283 : x8_1 < (t246.length : Int) := of_decide_eq_true (by first | (with_reducible assumption) | assumption)
                                  obtain ⟨ad283, e283, hx283_0⟩ := Kd.at_string (Kd.R_reads' HO_6.out).2.2 x8_1 p283 q283
                                  cases e283
                                  replace p283 := eq_true p283
                                  replace q283 := eq_true q283
                                  go_wp2_with (first | ((with_reducible refine gate_builtin (b := .append) (xs := #[.tmp 165, .tmp 167]) rfl ?_); (try (refine gate_guard (by rfl) ?_; dsimp only)); at_builtin; refine Kd.R_append (Kd.int .i64) (w0 := w) w.heap.size rfl (.tmp 165) (.tmp 167) 53 3 (.int .i64 0) 8 rfl Tryd.underlying53 info3 rfl (by decide) (by omega) u7 x7_1 x14_4 [.int .i64 x14_4] (fun _ => True) (fun _ => False) rfl rfl ?aP (fun _ hk => hk.elim) ?aF ?aO ?aB ?aS ?aL ?_; (case aP => exact rfl); (case aB => exact (by repeat (first | (with_reducible first | exact HB.out | apply below_alloc | apply pw_below_drewN | apply below_drew1) | exact HB.out))); (case aF => exact (fun _ _ => trivial)); (case aO => exact (by (with_reducible repeat (first | apply Kd.R_alloc | apply Kd.R_drewN | apply Kd.R_drew)); exact HO_7.out)); (case aS => exact (below_size (by repeat (first | (with_reducible first | exact HB.out | apply below_alloc | apply pw_below_drewN | apply below_drew1) | exact HB.out)))); (case aL => have := LMc68.out; omega); intro v287 w69 ho hb hg hat; rw [← Ny286.out] at ho; have n0_ := Aside0.mk (Kd.R_over' (by (with_reducible repeat (first | apply Kd.R_alloc | apply Kd.R_drewN | apply Kd.R_drew)); exact HO_6.out) (Kd.R_typed (by (with_reducible repeat (first | apply Kd.R_alloc | apply Kd.R_drewN | apply Kd.R_drew)); exact HO_7.out)) (by decide) hg); have n1_ := Aside0.mk (hb); have n2_ := Aside0.mk (ho); clear HO_6; clear HB; clear HO_7; have HO_6 := n0_; have HB := n1_; have HO288 := n2_; clear n0_ n1_ n2_; clear ho hb hg hat))
                                  go_roundg k4
                                  case measure => have := HK1.out; have := HJ6.out; have := HJ54.out; have := HK4.out; omega
                                  case rel => exact ⟨(y286), (wrap64 (x8_1 + 1)), (by first | rfl | (simp; done) | (simp [*]; done)), H', ⟨by have := HK1.out; have := HJ6.out; have := HJ54.out; have := HK4.out; omega⟩, ⟨by (with_reducible repeat (first | apply Kd.R_alloc | apply Kd.R_drewN | apply Kd.R_drew)); exact HO_6.out⟩, ⟨by (with_reducible repeat (first | apply Kd.R_alloc | apply Kd.R_drewN | apply Kd.R_drew)); exact HO288.out⟩, ⟨by repeat (first | (with_reducible first | exact HB.out | apply below_alloc | apply pw_below_drewN | apply below_drew1) | exact HB.out)⟩⟩
                                · rw [if_neg c68] at H
                                  exact absurd H (by simp)
                            · rw [if_neg c63] at H
                              exact absurd H (by simp)
                          · rw [if_neg c62] at H
                            exact absurd H (by simp)
        · rw [if_neg c6] at H
          have c6b0 : decide (x8_1 < (t246.length : Int)) = false := decide_eq_false c6
          clear c6
          simp only [Option.some.injEq, Prod.mk.injEq] at H
          obtain ⟨rfl, rfl⟩ := H
          obtain ⟨Ao70, co70, eo70⟩ := Kd.R_slice HO_6.out
          subst eo70
          go_wp2
          go_ret2
          exact ⟨_, by first | rfl | (simp [errW_none, errW_some] <;> rfl) | (simp [*, errW_none, errW_some] <;> rfl), by (with_reducible repeat (first | apply Kd.R_alloc | apply Kd.R_drewN | apply Kd.R_drew)); exact HO_7.out, by repeat (first | (with_reducible first | exact HB.out | apply below_alloc | apply pw_below_drewN | apply below_drew1) | exact HB.out)⟩

end Go.Proofs.YtldkhokpedfhdaaDoor.Q
