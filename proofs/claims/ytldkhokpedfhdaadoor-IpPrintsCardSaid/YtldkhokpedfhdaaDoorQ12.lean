-- Written by a program of this session's (wip/xprint.py), out of the seat's translation.
import Derived.Test.YtldkhokpedfhdaaDoorQ0
import Derived.Test.YtldkhokpedfhdaaDoorQ1
import Derived.Test.YtldkhokpedfhdaaDoorQ9
namespace Go.Proofs.YtldkhokpedfhdaaDoor.Q
open Go.RowKit Go.Proofs.YtldkhokpedfhdaaDoorW.PrintWords Go.Proofs.YtldkhokpedfhdaaDoorW.PrintLast Go.Proofs.YtldkhokpedfhdaaDoorW.PrintMore
attribute [local go_sem] max2_int min2_int max_two min_two max_three min_three max_four min_four   -- for this text's walks alone
set_option linter.unusedVariables false
set_option linter.unusedSimpArgs false

/-! ### sprref1_Hex: function 50 -/
def sprref1_Hex.l0 : Nat → List Int → ByteArray → List Int → Int → Option (ByteArray)
  | 0, _, _, _, _ => none
  | k + 1, x0, x3, x4, x5 => if x5 < (x0.length : Int) then (if 0 ≤ x5 then (if 0 ≤ ((rd x0 x5) / 16) then (if ((rd x0 x5) / 16) < (x3.size : Int) then (if 0 ≤ (Go.bits .and .u8 (rd x0 x5) 15) then (if (Go.bits .and .u8 (rd x0 x5) 15) < (x3.size : Int) then ((some (([bt x3 ((rd x0 x5) / 16), bt x3 (Go.bits .and .u8 (rd x0 x5) 15)] : List Int) : List Int)).bind fun y318 => (if x4.length + y318.length < 140737488355328 then (sprref1_Hex.l0 k x0 x3 (x4 ++ y318) (wrap64 (x5 + 1))) else (none))) else (none)) else (none)) else (none)) else (none)) else (none)) else (some (strOfNums x4))
def sprref1_Hex.f (k : Nat) (l0 : List Int) : Option (ByteArray) := sprref1_Hex.l0 k l0 (⟨#[48, 49, 50, 51, 52, 53, 54, 55, 56, 57, 97, 98, 99, 100, 101, 102]⟩ : ByteArray) ([] : List Int) 0
theorem sprref1_Hex.mono_l : ∀ k, (∀ y0 y1 y2 y3, LeO (sprref1_Hex.l0 k y0 y1 y2 y3) (sprref1_Hex.l0 (k + 1) y0 y1 y2 y3))
  | 0 => fun _ _ _ _ r h => by simp [sprref1_Hex.l0] at h
  | k + 1 => by
    have ih0 := sprref1_Hex.mono_l k
    · intro y0 y1 y2 y3
      unfold sprref1_Hex.l0
      repeat' first
      | (with_reducible exact ih0 _ _ _ _)
      | (with_reducible exact LeO.refl _)
      | (with_reducible exact LeO.none _)
      | (with_reducible refine LeO.ite ?_ ?_)
      | (with_reducible refine LeO.bind ?_ (fun _ => ?_))
      | exact ih0 _ _ _ _
      | exact LeO.none _
      | refine LeO.ite ?_ ?_
      | refine LeO.bind ?_ (fun _ => ?_)
theorem sprref1_Hex.mono : ∀ a0 k, LeO (sprref1_Hex.f k a0) (sprref1_Hex.f (k + 1) a0) := by
  intro a0 k
  have ih0 := sprref1_Hex.mono_l k
  unfold sprref1_Hex.f
  repeat' first
      | (with_reducible exact ih0 _ _ _ _)
      | (with_reducible exact LeO.refl _)
      | (with_reducible exact LeO.none _)
      | (with_reducible refine LeO.ite ?_ ?_)
      | (with_reducible refine LeO.bind ?_ (fun _ => ?_))
      | exact ih0 _ _ _ _
      | exact LeO.none _
      | refine LeO.ite ?_ ?_
      | refine LeO.bind ?_ (fun _ => ?_)
def sprref1_Hex.T6 : Bool × List (List Nat × List Nat) := (true, [([], []), ([], []), ([], []), ([], []), ([2, 3], [2, 3]), ([4], [4]), ([5], [5]), ([1, 6], [1, 6]), ([], []), ([], []), ([], []), ([9, 10], [9, 10]), ([11], [11]), ([12], [12]), ([8, 13], [8, 13]), ([7, 14], [7, 14]), ([0, 15], [0, 15]), ([16, 16, 0, 1, 2, 3, 4, 5, 6, 7, 8, 9, 10, 11, 12, 13, 14, 15, 16], [0, 16])])
def sprref1_Hex.B6 : List Nat := [0, 0, 0, 0, 12, 28, 60, 126, 0, 0, 0, 1536, 3584, 7680, 16128, 32766, 65535, 131071]
theorem sprref1_Hex.tab6 : rtab .any (opsOf Tryd.f50 6) = sprref1_Hex.T6 := by kernel_rfl
theorem sprref1_Hex.bits6 : waitsOk sprref1_Hex.T6.2 sprref1_Hex.B6 = true := by kernel_rfl
set_option maxHeartbeats 2000000 in
set_option maxRecDepth 100000 in
theorem sprref1_Hex.calls (k : Nat) (A0 : Option Addr) (c0 : Nat) (l0 : List Int) (r : ByteArray) (w : World) (hr0 : Kd.C (Kd.int .u8) w A0 l0.length l0) (hc0 : l0.length ≤ c0) (h : sprref1_Hex.f k l0 = some r) :
    Calls Tryd.prog 50 #[.slice A0 l0.length c0] w fun e w' => e = .returned (.string r) ∧ Below w.heap.size w w' := by
  have HR0 := Aside0.mk hr0
  have HC0 := Aside0.mk hc0
  clear hr0 hc0
  have HB := Aside0.mk (Below.refl w.heap.size w)
  have H : (sprref1_Hex.l0 k l0 (⟨#[48, 49, 50, 51, 52, 53, 54, 55, 56, 57, 97, 98, 99, 100, 101, 102]⟩ : ByteArray) ([] : List Int) 0) = some r := h
  clear h
  have H' := Aside0.mk H
  clear H
  go_enter Tryd.func50, Tryd.ntmps50
  go_wp2
  go_loopg [4, 5] k (fun kq v4 v5 w' => ∃ (x4_1 : List Int) (x5_1 : Int), v5 = .int .i64 x5_1 ∧ Aside0 (sprref1_Hex.l0 kq l0 (⟨#[48, 49, 50, 51, 52, 53, 54, 55, 56, 57, 97, 98, 99, 100, 101, 102]⟩ : ByteArray) x4_1 x5_1 = some r) ∧ Aside0 (kq ≤ k) ∧ Aside0 (Kd.R (Kd.int .u8) 5 w' w.heap.size (fun _ => True) v4 x4_1) ∧ Aside0 (Below w.heap.size w w'))
  case atStart => exact ⟨(([] : List Int)), (0), (by first | rfl | (simp; done) | (simp [*]; done)), H', ⟨Nat.le_refl _⟩, ⟨by first | exact Kd.R_nil _ _ _ _ _ | exact Kd.N_nil _ _ _ _ _ | exact Kd.V_nil _ _ _ _ _ | exact Kd.Q_nil _ _ _ _ _ | exact Kd.S_nil _ _ _ _ _⟩, ⟨by repeat (first | (with_reducible first | exact HB.out | apply below_alloc | apply pw_below_drewN | apply below_drew1) | exact HB.out)⟩⟩
  case round =>
    clear H'
    obtain ⟨x4_1, x5_1, rfl, HA, HK1, HO_4, HB⟩ := hrel
    cases gk with
    | zero => exact absurd HA.out (by simp [sprref1_Hex.l0])
    | succ k1 =>
      have H := HA.out
      clear HA
      simp only [sprref1_Hex.l0] at H
      by_cases c2 : x5_1 < (l0.length : Int)
      · rw [if_pos c2] at H
        have c2b0 : decide (x5_1 < (l0.length : Int)) = true := decide_eq_true c2
        clear c2
        by_cases c3 : 0 ≤ x5_1
        · rw [if_pos c3] at H
          have c3b0 : decide (0 ≤ x5_1) = true := decide_eq_true c3
          clear c3
          obtain ⟨ji4, hji4⟩ : ∃ j_ : Int, ((rd l0 x5_1) / 16) = j_ := ⟨_, rfl⟩
          replace H : (if 0 ≤ (ji4) then (if (ji4) < ((⟨#[48, 49, 50, 51, 52, 53, 54, 55, 56, 57, 97, 98, 99, 100, 101, 102]⟩ : ByteArray).size : Int) then (if 0 ≤ (Go.bits .and .u8 (rd l0 x5_1) 15) then (if (Go.bits .and .u8 (rd l0 x5_1) 15) < ((⟨#[48, 49, 50, 51, 52, 53, 54, 55, 56, 57, 97, 98, 99, 100, 101, 102]⟩ : ByteArray).size : Int) then ((some (([bt (⟨#[48, 49, 50, 51, 52, 53, 54, 55, 56, 57, 97, 98, 99, 100, 101, 102]⟩ : ByteArray) (ji4), bt (⟨#[48, 49, 50, 51, 52, 53, 54, 55, 56, 57, 97, 98, 99, 100, 101, 102]⟩ : ByteArray) (Go.bits .and .u8 (rd l0 x5_1) 15)] : List Int) : List Int)).bind fun y318 => (if x4_1.length + y318.length < 140737488355328 then (sprref1_Hex.l0 k1 l0 (⟨#[48, 49, 50, 51, 52, 53, 54, 55, 56, 57, 97, 98, 99, 100, 101, 102]⟩ : ByteArray) (x4_1 ++ y318) (wrap64 (x5_1 + 1))) else (none))) else (none)) else (none)) else (none)) else (none)) = some r := by first | (rw [hji4] at H; exact H) | (simp only [hji4] at H ⊢; exact H)
          by_cases c5 : 0 ≤ (ji4)
          · rw [if_pos c5] at H
            have c5b0 : decide (0 ≤ (ji4)) = true := decide_eq_true c5
            clear c5
            by_cases c6 : (ji4) < ((⟨#[48, 49, 50, 51, 52, 53, 54, 55, 56, 57, 97, 98, 99, 100, 101, 102]⟩ : ByteArray).size : Int)
            · rw [if_pos c6] at H
              have c6b0 : decide ((ji4) < ((⟨#[48, 49, 50, 51, 52, 53, 54, 55, 56, 57, 97, 98, 99, 100, 101, 102]⟩ : ByteArray).size : Int)) = true := decide_eq_true c6
              clear c6
              by_cases c8 : 0 ≤ (Go.bits .and .u8 (rd l0 x5_1) 15)
              · rw [if_pos c8] at H
                have c8b0 : decide (0 ≤ (Go.bits .and .u8 (rd l0 x5_1) 15)) = true := decide_eq_true c8
                clear c8
                by_cases c9 : (Go.bits .and .u8 (rd l0 x5_1) 15) < ((⟨#[48, 49, 50, 51, 52, 53, 54, 55, 56, 57, 97, 98, 99, 100, 101, 102]⟩ : ByteArray).size : Int)
                · rw [if_pos c9] at H
                  have c9b0 : decide ((Go.bits .and .u8 (rd l0 x5_1) 15) < ((⟨#[48, 49, 50, 51, 52, 53, 54, 55, 56, 57, 97, 98, 99, 100, 101, 102]⟩ : ByteArray).size : Int)) = true := decide_eq_true c9
                  clear c9
                  obtain ⟨y318, hy318⟩ : ∃ y_ : List Int, y_ = (([bt (⟨#[48, 49, 50, 51, 52, 53, 54, 55, 56, 57, 97, 98, 99, 100, 101, 102]⟩ : ByteArray) (ji4), bt (⟨#[48, 49, 50, 51, 52, 53, 54, 55, 56, 57, 97, 98, 99, 100, 101, 102]⟩ : ByteArray) (Go.bits .and .u8 (rd l0 x5_1) 15)] : List Int)) := ⟨_, rfl⟩
                  replace H : (if x4_1.length + y318.length < 140737488355328 then (sprref1_Hex.l0 k1 l0 (⟨#[48, 49, 50, 51, 52, 53, 54, 55, 56, 57, 97, 98, 99, 100, 101, 102]⟩ : ByteArray) (x4_1 ++ y318) (wrap64 (x5_1 + 1))) else (none)) = some r := by first | (rw [hy318]; with_reducible exact H) | (have H2_ := (Option.bind_some _ _).symm.trans H; rw [hy318]; with_reducible exact H2_) | (have H2_ := (Option.bind_some _ _).symm.trans H; with_reducible exact H2_) | with_reducible exact H | (rw [hy318]; exact H) | exact H
                  have Ny318 := Aside0.mk hy318
                  clear hy318
                  by_cases c11 : x4_1.length + y318.length < 140737488355328
                  · rw [if_pos c11] at H
                    have LMc11 := Aside0.mk c11
                    clear c11
                    obtain ⟨y321, hy321⟩ : ∃ y_ : List Int, y_ = (x4_1 ++ y318) := ⟨_, rfl⟩
                    replace H : (sprref1_Hex.l0 k1 l0 (⟨#[48, 49, 50, 51, 52, 53, 54, 55, 56, 57, 97, 98, 99, 100, 101, 102]⟩ : ByteArray) y321 (wrap64 (x5_1 + 1))) = some r := by first | (rw [hy321]; with_reducible exact H) | (have H2_ := (Option.bind_some _ _).symm.trans H; rw [hy321]; with_reducible exact H2_) | (have H2_ := (Option.bind_some _ _).symm.trans H; with_reducible exact H2_) | with_reducible exact H | (rw [hy321]; exact H) | exact H
                    have Ny321 := Aside0.mk hy321
                    clear hy321
                    have H' := Aside0.mk H
                    clear H
                    try go_wp2
                    have n0_ := Aside0.mk (Kd.R_drew HO_4.out)
                    have n1_ := Aside0.mk (below_drew1 HB.out)
                    clear HO_4
                    clear HB
                    have HO_4 := n0_
                    have HB := n1_
                    clear n0_ n1_
                    have p316 : 0 ≤ (x5_1 : Int) := of_decide_eq_true (by first | (with_reducible assumption) | assumption)
                    have q316 : x5_1 < (l0.length : Int) := of_decide_eq_true (by first | (with_reducible assumption) | assumption)
                    obtain ⟨ad316, e316, hx316_0⟩ := Kd.at_int HR0.out x5_1 p316 q316
                    have hw316_0 := hx316_0
                    cases e316
                    replace hx316_0 := (HB.out.cell (World.block_lt_of_cell? w _ hx316_0)).trans hx316_0
                    replace p316 := eq_true p316
                    replace q316 := eq_true q316
                    have p7 : 0 ≤ ((ji4) : Int) := of_decide_eq_true (by first | (with_reducible assumption) | assumption)
                    have q7 : (ji4) < (16 : Int) := of_decide_eq_true (by first | (with_reducible assumption) | assumption)
                    have hx7 := bt_at (⟨#[48, 49, 50, 51, 52, 53, 54, 55, 56, 57, 97, 98, 99, 100, 101, 102]⟩ : ByteArray) (ji4)
                    replace p7 := eq_true p7
                    replace q7 := eq_true q7
                    have p317 : 0 ≤ (x5_1 : Int) := of_decide_eq_true (by first | (with_reducible assumption) | assumption)
                    have q317 : x5_1 < (l0.length : Int) := of_decide_eq_true (by first | (with_reducible assumption) | assumption)
                    obtain ⟨ad317, e317, hx317_0⟩ := Kd.at_int HR0.out x5_1 p317 q317
                    have hw317_0 := hx317_0
                    obtain rfl : ad316 = ad317 := (by injection e317)
                    replace hx317_0 := (HB.out.cell (World.block_lt_of_cell? w _ hx317_0)).trans hx317_0
                    replace p317 := eq_true p317
                    replace q317 := eq_true q317
                    have p10 : 0 ≤ ((Go.bits .and .u8 (rd l0 x5_1) 15) : Int) := of_decide_eq_true (by first | (with_reducible assumption) | assumption)
                    have q10 : (Go.bits .and .u8 (rd l0 x5_1) 15) < (16 : Int) := of_decide_eq_true (by first | (with_reducible assumption) | assumption)
                    have hx10 := bt_at (⟨#[48, 49, 50, 51, 52, 53, 54, 55, 56, 57, 97, 98, 99, 100, 101, 102]⟩ : ByteArray) (Go.bits .and .u8 (rd l0 x5_1) 15)
                    replace p10 := eq_true p10
                    replace q10 := eq_true q10
                    refine start_ (n := 18) (S := fun w' => w'.cell? (ad316.add (x5_1).toNat) = some (.int .u8 (rd l0 x5_1)) ∧ w'.cell? (ad316.add (x5_1).toNat) = some (.int .u8 (rd l0 x5_1))) (ds := []) #[false, false, false, false, false, false, false, false, false, false, false, false, false, false, false, false, false, false] (by kernel_rfl) rfl rfl ⟨((HB.out.cell (World.block_lt_of_cell? w _ hw316_0)).trans hw316_0), ((HB.out.cell (World.block_lt_of_cell? w _ hw317_0)).trans hw317_0)⟩ (fun hHeld => ?_); refine with_tabW sprref1_Hex.tab6 sprref1_Hex.bits6 (fun HT_ HW_ => ?_)
                    generalize wr.drew = w12 at HO_4 HB hx316_0 hx317_0 hHeld ⊢
                    refine pure_ (i := 0) (N := some 12) (v := ?_) (a' := ?_) #[true, false, false, false, false, false, false, false, false, false, false, false, false, false, false, false, false, false] rfl rfl (any_of HT_.out (by kernel_rfl)) (fun _ _ _ h => h) (Or.inl ⟨by rfl, ?_⟩) ?_ ?_
                    rotate_left
                    · intro w'
                      go_simp
                      with_reducible rfl
                    rotate_left
                    · simp only [Act.put, List.setIfInBounds_toArray, List.set_cons_zero, List.set_cons_succ, i64_w, i32_w]
                      rfl
                    refine pure_ (i := 1) (N := some 13) (v := ?_) (a' := ?_) #[true, true, false, false, false, false, false, false, false, false, false, false, false, false, false, false, false, false] rfl rfl (any_of HT_.out (by kernel_rfl)) (fun _ _ _ h => h) (Or.inl ⟨by rfl, ?_⟩) ?_ ?_
                    rotate_left
                    · intro w'
                      go_simp
                      with_reducible rfl
                    rotate_left
                    · simp only [Act.put, List.setIfInBounds_toArray, List.set_cons_zero, List.set_cons_succ, i64_w, i32_w]
                      rfl
                    refine pure_ (i := 2) (N := some 14) (v := ?_) (a' := ?_) #[true, true, true, false, false, false, false, false, false, false, false, false, false, false, false, false, false, false] rfl rfl (any_of HT_.out (by kernel_rfl)) (fun _ _ _ h => h) (Or.inl ⟨by rfl, ?_⟩) ?_ ?_
                    rotate_left
                    · intro w'
                      go_simp
                      with_reducible rfl
                    rotate_left
                    · simp only [Act.put, List.setIfInBounds_toArray, List.set_cons_zero, List.set_cons_succ, i64_w, i32_w]
                      rfl
                    refine pure_ (i := 3) (N := some 15) (v := ?_) (a' := ?_) #[true, true, true, true, false, false, false, false, false, false, false, false, false, false, false, false, false, false] rfl rfl (any_of HT_.out (by kernel_rfl)) (fun _ _ _ h => h) (Or.inl ⟨by rfl, ?_⟩) ?_ ?_
                    rotate_left
                    · intro w'
                      go_simp
                      with_reducible rfl
                    rotate_left
                    · simp only [Act.put, List.setIfInBounds_toArray, List.set_cons_zero, List.set_cons_succ, i64_w, i32_w]
                      rfl
                    refine pure_ (i := 4) (N := some 16) (v := ?_) (a' := ?_) #[true, true, true, true, true, false, false, false, false, false, false, false, false, false, false, false, false, false] rfl rfl (any_of HT_.out (by kernel_rfl)) (fun _ _ _ h => h) (Or.inl ⟨by rfl, ?_⟩) ?_ ?_
                    rotate_left
                    · intro w'
                      go_simp
                      with_reducible rfl
                    rotate_left
                    · simp only [Act.put, List.setIfInBounds_toArray, List.set_cons_zero, List.set_cons_succ, i64_w, i32_w]
                      rfl
                    refine pure_ (i := 8) (N := some 20) (v := ?_) (a' := ?_) #[true, true, true, true, true, false, false, false, true, false, false, false, false, false, false, false, false, false] rfl rfl (any_of HT_.out (by kernel_rfl)) (fun _ _ _ h => h) (Or.inl ⟨by rfl, ?_⟩) ?_ ?_
                    rotate_left
                    · intro w'
                      go_simp
                      with_reducible rfl
                    rotate_left
                    · simp only [Act.put, List.setIfInBounds_toArray, List.set_cons_zero, List.set_cons_succ, i64_w, i32_w]
                      rfl
                    refine pure_ (i := 9) (N := some 21) (v := ?_) (a' := ?_) #[true, true, true, true, true, false, false, false, true, true, false, false, false, false, false, false, false, false] rfl rfl (any_of HT_.out (by kernel_rfl)) (fun _ _ _ h => h) (Or.inl ⟨by rfl, ?_⟩) ?_ ?_
                    rotate_left
                    · intro w'
                      go_simp
                      with_reducible rfl
                    rotate_left
                    · simp only [Act.put, List.setIfInBounds_toArray, List.set_cons_zero, List.set_cons_succ, i64_w, i32_w]
                      rfl
                    refine pure_ (i := 10) (N := some 22) (v := ?_) (a' := ?_) #[true, true, true, true, true, false, false, false, true, true, true, false, false, false, false, false, false, false] rfl rfl (any_of HT_.out (by kernel_rfl)) (fun _ _ _ h => h) (Or.inl ⟨by rfl, ?_⟩) ?_ ?_
                    rotate_left
                    · intro w'
                      go_simp
                      with_reducible rfl
                    rotate_left
                    · simp only [Act.put, List.setIfInBounds_toArray, List.set_cons_zero, List.set_cons_succ, i64_w, i32_w]
                      rfl
                    refine pure_ (i := 11) (N := some 23) (v := ?_) (a' := ?_) #[true, true, true, true, true, false, false, false, true, true, true, true, false, false, false, false, false, false] rfl rfl (any_of HT_.out (by kernel_rfl)) (fun _ _ _ h => h) (Or.inl ⟨by rfl, ?_⟩) ?_ ?_
                    rotate_left
                    · intro w'
                      go_simp
                      with_reducible rfl
                    rotate_left
                    · simp only [Act.put, List.setIfInBounds_toArray, List.set_cons_zero, List.set_cons_succ, i64_w, i32_w]
                      rfl
                    refine take_ (i := 5) (N := some 17) (v := ?_) (a' := ?_) #[true, true, true, true, true, true, false, false, true, true, true, true, false, false, false, false, false, false] rfl rfl (take_ofW HT_.out HW_.out (by kernel_rfl)) (fun _ _ _ h => h) (Or.inl ⟨by rfl, ?_⟩) hHeld ?_ ?_
                    rotate_left
                    · rintro w' ⟨s0, s1⟩
                      go_simp
                      with_reducible rfl
                    rotate_left
                    · simp only [Act.put, List.setIfInBounds_toArray, List.set_cons_zero, List.set_cons_succ, i64_w, i32_w]
                      rfl
                    refine pure_ (i := 6) (N := some 18) (v := ?_) (a' := ?_) #[true, true, true, true, true, true, true, false, true, true, true, true, false, false, false, false, false, false] rfl rfl (any_of HT_.out (by kernel_rfl)) (fun _ _ _ h => h) (Or.inl ⟨by rfl, ?_⟩) ?_ ?_
                    rotate_left
                    · intro w'
                      go_simp
                      with_reducible rfl
                    rotate_left
                    · simp only [Act.put, List.setIfInBounds_toArray, List.set_cons_zero, List.set_cons_succ, i64_w, i32_w]
                      rfl
                    refine take_ (i := 7) (N := some 19) (v := ?_) (a' := ?_) #[true, true, true, true, true, true, true, true, true, true, true, true, false, false, false, false, false, false] rfl rfl (take_ofW HT_.out HW_.out (by kernel_rfl)) (fun _ _ _ h => h) (Or.inl ⟨by rfl, ?_⟩) hHeld ?_ ?_
                    rotate_left
                    · rintro w' ⟨s0, s1⟩
                      go_simp
                      with_reducible rfl
                    rotate_left
                    · simp only [Act.put, List.setIfInBounds_toArray, List.set_cons_zero, List.set_cons_succ, i64_w, i32_w]
                      rfl
                    refine take_ (i := 12) (N := some 24) (v := ?_) (a' := ?_) #[true, true, true, true, true, true, true, true, true, true, true, true, true, false, false, false, false, false] rfl rfl (take_ofW HT_.out HW_.out (by kernel_rfl)) (fun _ _ _ h => h) (Or.inl ⟨by rfl, ?_⟩) hHeld ?_ ?_
                    rotate_left
                    · rintro w' ⟨s0, s1⟩
                      go_simp
                      with_reducible rfl
                    rotate_left
                    · simp only [Act.put, List.setIfInBounds_toArray, List.set_cons_zero, List.set_cons_succ, i64_w, i32_w]
                      rfl
                    refine pure_ (i := 13) (N := some 25) (v := ?_) (a' := ?_) #[true, true, true, true, true, true, true, true, true, true, true, true, true, true, false, false, false, false] rfl rfl (any_of HT_.out (by kernel_rfl)) (fun _ _ _ h => h) (Or.inl ⟨by rfl, ?_⟩) ?_ ?_
                    rotate_left
                    · intro w'
                      go_simp
                      with_reducible rfl
                    rotate_left
                    · simp only [Act.put, List.setIfInBounds_toArray, List.set_cons_zero, List.set_cons_succ, i64_w, i32_w]
                      rfl
                    refine take_ (i := 14) (N := some 26) (v := ?_) (a' := ?_) #[true, true, true, true, true, true, true, true, true, true, true, true, true, true, true, false, false, false] rfl rfl (take_ofW HT_.out HW_.out (by kernel_rfl)) (fun _ _ _ h => h) (Or.inl ⟨by rfl, ?_⟩) hHeld ?_ ?_
                    rotate_left
                    · rintro w' ⟨s0, s1⟩
                      go_simp
                      with_reducible rfl
                    rotate_left
                    · simp only [Act.put, List.setIfInBounds_toArray, List.set_cons_zero, List.set_cons_succ, i64_w, i32_w]
                      rfl
                    refine one_ (i := 15) (N := some 27) #[true, true, true, true, true, true, true, true, true, true, true, true, true, true, true, true, false, false] rfl rfl (one_of HT_.out (by kernel_rfl)) (by decide) (fun K hK => ?_)
                    refine Kd.R_lit_step (Kd.int .u8) _ 5 ?hg (N := 27) ?hd (xs := ([bt (⟨#[48, 49, 50, 51, 52, 53, 54, 55, 56, 57, 97, 98, 99, 100, 101, 102]⟩ : ByteArray) (ji4), bt (⟨#[48, 49, 50, 51, 52, 53, 54, 55, 56, 57, 97, 98, 99, 100, 101, 102]⟩ : ByteArray) (Go.bits .and .u8 (rd l0 x5_1) 15)] : List Int)) (inner := [.int .u8 (bt (⟨#[48, 49, 50, 51, 52, 53, 54, 55, 56, 57, 97, 98, 99, 100, 101, 102]⟩ : ByteArray) (ji4)), .int .u8 (bt (⟨#[48, 49, 50, 51, 52, 53, 54, 55, 56, 57, 97, 98, 99, 100, 101, 102]⟩ : ByteArray) (Go.bits .and .u8 (rd l0 x5_1) 15))]) (ok := fun _ => True) (okp := fun _ => True) ?hr ?hp (fun _ hk => hk) trivial (Below.refl _ _) (Nat.le_refl _) (by simp) ?_; (case hd => rfl); (case hg => rfl); (case hr => first | (go_simp; done) | (go_simp; rfl)); (case hp => exact (Reps.one (show Kd.M (Kd.int .u8) _ _ _ (bt (⟨#[48, 49, 50, 51, 52, 53, 54, 55, 56, 57, 97, 98, 99, 100, 101, 102]⟩ : ByteArray) (ji4)) [.int .u8 (bt (⟨#[48, 49, 50, 51, 52, 53, 54, 55, 56, 57, 97, 98, 99, 100, 101, 102]⟩ : ByteArray) (ji4))] from rfl) (Reps.one (show Kd.M (Kd.int .u8) _ _ _ (bt (⟨#[48, 49, 50, 51, 52, 53, 54, 55, 56, 57, 97, 98, 99, 100, 101, 102]⟩ : ByteArray) (Go.bits .and .u8 (rd l0 x5_1) 15)) [.int .u8 (bt (⟨#[48, 49, 50, 51, 52, 53, 54, 55, 56, 57, 97, 98, 99, 100, 101, 102]⟩ : ByteArray) (Go.bits .and .u8 (rd l0 x5_1) 15))] from rfl) (Reps.none _ _))))
                    intro v319 w13 ho14 hb hg_ hnew_
                    clear hg_ hnew_
                    (first | rw [← Ny318.out] at ho14 | (simp only [Int.reduceToNat] at ho14; rw [← Ny318.out] at ho14))
                    have n0_ := Aside0.mk (Kd.R_elder' (by (with_reducible repeat (first | apply Kd.R_alloc | apply Kd.R_drewN | apply Kd.R_drew)); exact HO_4.out) (Kd.R_base ho14) hb)
                    have n1_ := Aside0.mk (Kd.R_lower (Kd.R_new' ho14 (Kd.R_lt (by (with_reducible repeat (first | apply Kd.R_alloc | apply Kd.R_drewN | apply Kd.R_drew)); exact HO_4.out))) (below_size (by repeat (first | (with_reducible first | exact HB.out | apply below_alloc | apply pw_below_drewN | apply below_drew1) | exact HB.out))))
                    have n2_ := Aside0.mk (below_step (by repeat (first | (with_reducible first | exact HB.out | apply below_alloc | apply pw_below_drewN | apply below_drew1) | exact HB.out)) hb)
                    clear HO_4
                    clear HB
                    have HO_4 := n0_
                    have HO320 := n1_
                    have HB := n2_
                    clear n0_ n1_ n2_
                    clear hb ho14
                    obtain ⟨Ao16, co16, eo16⟩ := Kd.R_slice HO320.out
                    (first | subst eo16 | (injection eo16 with f1_ f2_ f3_; have f4_ := f1_.symm; have f5_ := f3_.symm; clear f1_ f2_ f3_; subst f4_; subst f5_))
                    refine hK.out _ _ ⟨((HB.out.cell (World.block_lt_of_cell? w _ hw316_0)).trans hw316_0), ((HB.out.cell (World.block_lt_of_cell? w _ hw317_0)).trans hw317_0)⟩ (fun hHeld => ?_)
                    clear hK K
                    refine norm_ (a' := ?_) ?_ ?_
                    rotate_left
                    · show Act.put _ (some 27) _ = _
                      simp only [Act.put, List.setIfInBounds_toArray, List.set_cons_zero, List.set_cons_succ, i64_w, i32_w]
                      rfl
                    refine one_ (i := 16) (N := some 28) #[true, true, true, true, true, true, true, true, true, true, true, true, true, true, true, true, true, false] rfl rfl (one_of HT_.out (by kernel_rfl)) (by decide) (fun K hK => ?_)
                    refine Kd.R_append_rows_step (Kd.int .u8) (w0 := w) w.heap.size (by rfl) (.tmp 12) (.tmp 27) 40 5 (.int .u8 0) 1 rfl Tryd.underlying40 info5 rfl (by decide) (by omega) u4 x4_1 y318 _ _ _ (fun k_ => some k_ ≠ (.slice Ao16 y318.length co16 : Value).ownBlock) (fun _ => False) rfl rfl ?aO ?aR (fun _ _ h => h) (fun _ h => h.elim) ?aF ?aB ?aS ?aL ?_
                    (case aR => repeat (first | exact (Kd.R_reads' HO320.out).2.2 | (with_reducible refine Kd.C_alloc ?_ _) | (with_reducible refine Kd.C_drewN ?_ _) | (with_reducible refine Kd.C_drew ?_)))
                    (case aB => exact (by repeat (first | (with_reducible first | exact HB.out | apply below_alloc | apply pw_below_drewN | apply below_drew1) | exact HB.out)))
                    (case aF => exact (fun k_ hk => Kd.fresh' (Kd.R_lt (by (with_reducible repeat (first | apply Kd.R_alloc | apply Kd.R_drewN | apply Kd.R_drew)); exact HO320.out)) k_ hk))
                    (case aO => exact (by (with_reducible repeat (first | apply Kd.R_alloc | apply Kd.R_drewN | apply Kd.R_drew)); exact Kd.R_mono HO_4.out (fun _ hk => hk.2)))
                    (case aS => exact (below_size (by repeat (first | (with_reducible first | exact HB.out | apply below_alloc | apply pw_below_drewN | apply below_drew1) | exact HB.out))))
                    (case aL => have := LMc11.out; omega)
                    intro v322 w15 ho hb hg hat
                    rw [← Ny321.out] at ho
                    have n0_ := Aside0.mk (Kd.R_after (ok := (fun _ => True)) (by (with_reducible repeat (first | apply Kd.R_alloc | apply Kd.R_drewN | apply Kd.R_drew)); exact HO320.out) hg hat)
                    have n1_ := Aside0.mk (hb)
                    have n2_ := Aside0.mk (ho)
                    clear HO320
                    clear HB
                    clear HO_4
                    have HO320 := n0_
                    have HB := n1_
                    have HO323 := n2_
                    clear n0_ n1_ n2_
                    clear ho hb hg hat
                    refine hK.out _ _ ⟨((HB.out.cell (World.block_lt_of_cell? w _ hw316_0)).trans hw316_0), ((HB.out.cell (World.block_lt_of_cell? w _ hw317_0)).trans hw317_0)⟩ (fun hHeld => ?_)
                    clear hK K
                    refine norm_ (a' := ?_) ?_ ?_
                    rotate_left
                    · show Act.put _ (some 28) _ = _
                      simp only [Act.put, List.setIfInBounds_toArray, List.set_cons_zero, List.set_cons_succ, i64_w, i32_w]
                      rfl
                    refine pure_ (i := 17) (N := some 4) (v := ?_) (a' := ?_) #[true, true, true, true, true, true, true, true, true, true, true, true, true, true, true, true, true, true] rfl rfl (any_of HT_.out (by kernel_rfl)) (fun _ _ _ h => h) (Or.inl ⟨by rfl, ?_⟩) ?_ ?_
                    rotate_left
                    · intro w'
                      go_simp
                      with_reducible rfl
                    rotate_left
                    · simp only [Act.put, List.setIfInBounds_toArray, List.set_cons_zero, List.set_cons_succ, i64_w, i32_w]
                      rfl
                    refine done_ (done_of HT_.out (by kernel_rfl)) ?_
                    try go_wp2
                    go_roundg k1
                    case measure => have := HK1.out; omega
                    case rel => exact ⟨(y321), (wrap64 (x5_1 + 1)), (by first | rfl | (simp; done) | (simp [*]; done)), H', ⟨by have := HK1.out; omega⟩, ⟨by (with_reducible repeat (first | apply Kd.R_alloc | apply Kd.R_drewN | apply Kd.R_drew)); exact Kd.R_mono HO323.out (fun _ hk => trivial)⟩, ⟨by repeat (first | (with_reducible first | exact HB.out | apply below_alloc | apply pw_below_drewN | apply below_drew1) | exact HB.out)⟩⟩
                  · rw [if_neg c11] at H
                    exact absurd H (by simp)
                · rw [if_neg c9] at H
                  exact absurd H (by simp)
              · rw [if_neg c8] at H
                exact absurd H (by simp)
            · rw [if_neg c6] at H
              exact absurd H (by simp)
          · rw [if_neg c5] at H
            exact absurd H (by simp)
        · rw [if_neg c3] at H
          exact absurd H (by simp)
      · rw [if_neg c2] at H
        have c2b0 : decide (x5_1 < (l0.length : Int)) = false := decide_eq_false c2
        clear c2
        obtain rfl := Option.some.inj H
        have hcv17 := own_string (P := Tryd.prog) Tryd.underlying40 Tryd.underlying5 Tryd.underlying9 (Kd.own_of_R HO_4.out)
        go_wp2
        go_ret
        exact ⟨by first | rfl | (simp [errW_none, errW_some] <;> rfl) | (simp [*, errW_none, errW_some] <;> rfl), by repeat (first | (with_reducible first | exact HB.out | apply below_alloc | apply pw_below_drewN | apply below_drew1) | exact HB.out)⟩

/-! ### sprref7_piece: function 36 -/
def sprref7_piece.l0 : Nat → ByteArray → Option (ByteArray)
  | 0, _ => none
  | k + 1, x3 => if (x3.size : Int) > 1 then (if 0 < (x3.size : Int) then (if (bt x3 0) = 48 then (if 1 ≤ (x3.size : Int) then (sprref7_piece.l0 k (x3.extract 1 x3.size)) else (none)) else (some x3)) else (none)) else (some x3)
def sprref7_piece.f (k : Nat) (a0 : Int) : Option (ByteArray) := (sprref1_Hex.f k (([(a0 / 256) % 256, (a0) % 256] : List Int))).bind fun t327 => (sprref7_piece.l0 k t327)
theorem sprref7_piece.mono_l : ∀ k, (∀ y0, LeO (sprref7_piece.l0 k y0) (sprref7_piece.l0 (k + 1) y0))
  | 0 => fun _ r h => by simp [sprref7_piece.l0] at h
  | k + 1 => by
    have ih0 := sprref7_piece.mono_l k
    · intro y0
      unfold sprref7_piece.l0
      repeat' first
      | (with_reducible exact ih0 _)
      | (with_reducible exact sprref1_Hex.mono _ _)
      | (with_reducible exact LeO.refl _)
      | (with_reducible exact LeO.none _)
      | (with_reducible refine LeO.ite ?_ ?_)
      | (with_reducible refine LeO.bind ?_ (fun _ => ?_))
      | exact ih0 _
      | exact sprref1_Hex.mono _ _
      | exact LeO.none _
      | refine LeO.ite ?_ ?_
      | refine LeO.bind ?_ (fun _ => ?_)
theorem sprref7_piece.mono : ∀ a0 k, LeO (sprref7_piece.f k a0) (sprref7_piece.f (k + 1) a0) := by
  intro a0 k
  have ih0 := sprref7_piece.mono_l k
  unfold sprref7_piece.f
  repeat' first
      | (with_reducible exact ih0 _)
      | (with_reducible exact sprref1_Hex.mono _ _)
      | (with_reducible exact LeO.refl _)
      | (with_reducible exact LeO.none _)
      | (with_reducible refine LeO.ite ?_ ?_)
      | (with_reducible refine LeO.bind ?_ (fun _ => ?_))
      | exact ih0 _
      | exact sprref1_Hex.mono _ _
      | exact LeO.none _
      | refine LeO.ite ?_ ?_
      | refine LeO.bind ?_ (fun _ => ?_)
set_option maxHeartbeats 2000000 in
set_option maxRecDepth 100000 in
theorem sprref7_piece.calls (k : Nat) (a0 : Int) (r : ByteArray) (w : World) (h : sprref7_piece.f k a0 = some r) :
    Calls Tryd.prog 36 #[.int .u16 a0] w fun e w' => e = .returned (.string r) ∧ Below w.heap.size w w' := by
  have HB := Aside0.mk (Below.refl w.heap.size w)
  have H : ((sprref1_Hex.f k (([(a0 / 256) % 256, (a0) % 256] : List Int))).bind fun t327 => (sprref7_piece.l0 k t327)) = some r := h
  clear h
  obtain ⟨y324, hy324⟩ : ∃ y_ : List Int, y_ = (([(a0 / 256) % 256, (a0) % 256] : List Int)) := ⟨_, rfl⟩
  replace H : ((sprref1_Hex.f k y324).bind fun t327 => (sprref7_piece.l0 k t327)) = some r := by first | (rw [hy324]; with_reducible exact H) | (have H2_ := (Option.bind_some _ _).symm.trans H; rw [hy324]; with_reducible exact H2_) | (have H2_ := (Option.bind_some _ _).symm.trans H; with_reducible exact H2_) | with_reducible exact H | (rw [hy324]; exact H) | exact H
  have Ny324 := Aside0.mk hy324
  clear hy324
  replace H := Option.bind_eq_some_iff.mp H
  obtain ⟨t327, A20, H⟩ := H
  replace H : (sprref7_piece.l0 k t327) = some r := H
  have A2 := Aside0.mk A20
  clear A20
  have H' := Aside0.mk H
  clear H
  go_enter Tryd.func36, Tryd.ntmps36
  go_wp2_with (first | ((with_reducible refine gate_dst (N := 9) rfl ?_); refine Kd.R_lit (Kd.int .u8) _ 5 ?hg (N := 9) ?hd (xs := ([(a0 / 256) % 256, (a0) % 256] : List Int)) (inner := [.int .u8 ((a0 / 256) % 256), .int .u8 ((a0) % 256)]) (ok := fun _ => True) (okp := fun _ => True) ?hr ?hp (fun _ hk => hk) trivial (Below.refl _ _) (Nat.le_refl _) (by simp) ?_; (case hd => rfl); (case hg => rfl); (case hr => first | (go_simp; done) | (go_simp; rfl)); (case hp => exact (Reps.one (show Kd.M (Kd.int .u8) _ _ _ ((a0 / 256) % 256) [.int .u8 ((a0 / 256) % 256)] from rfl) (Reps.one (show Kd.M (Kd.int .u8) _ _ _ ((a0) % 256) [.int .u8 ((a0) % 256)] from rfl) (Reps.none _ _)))); intro v325 w3 ho4 hb hg_ hnew_; clear hg_ hnew_; (first | rw [← Ny324.out] at ho4 | (simp only [Int.reduceToNat] at ho4; rw [← Ny324.out] at ho4)); have n0_ := Aside0.mk (Kd.R_lower ho4 (below_size (by repeat (first | (with_reducible first | exact HB.out | apply below_alloc | apply pw_below_drewN | apply below_drew1) | exact HB.out)))); have n1_ := Aside0.mk (below_step (by repeat (first | (with_reducible first | exact HB.out | apply below_alloc | apply pw_below_drewN | apply below_drew1) | exact HB.out)) hb); clear HB; have HO326 := n0_; have HB := n1_; clear n0_ n1_; clear hb ho4; obtain ⟨Ao5, co5, eo5⟩ := Kd.R_slice HO326.out; subst eo5) | ((with_reducible refine gate_callee (f := 50) rfl ?_); refine goesL_ (some 10) rfl rfl Tryd.func50 (by kernel_rfl) rfl #[.slice Ao5 y324.length co5] rfl (by (try simp only [List.map_toArray, List.map_cons, List.map_nil]); first | done | rfl | (simp only [List.length_drop, List.length_take]; rfl)) ?_; (with_reducible refine (sprref1_Hex.calls k _ _ y324 t327 _ ?side1 ?side2 A2.out).mono ?_); (case side1 => repeat (first | exact (Kd.R_reads' HO326.out).2.2 | (with_reducible refine Kd.C_alloc ?_ _) | (with_reducible refine Kd.C_drewN ?_ _) | (with_reducible refine Kd.C_drew ?_))); (case side2 => exact (Kd.R_reads' HO326.out).2.1); rintro e w6 ⟨rfl, hb⟩; refine ⟨_, rfl, ?_⟩; have n0_ := Aside0.mk (Kd.R_below (by (with_reducible repeat (first | apply Kd.R_alloc | apply Kd.R_drewN | apply Kd.R_drew)); exact HO326.out) hb); have n1_ := Aside0.mk (below_step (by repeat (first | (with_reducible first | exact HB.out | apply below_alloc | apply pw_below_drewN | apply below_drew1) | exact HB.out)) hb); clear HO326; clear HB; have HO326 := n0_; have HB := n1_; clear n0_ n1_; (try clear hb); (try clear hb2); (try clear hk); (try clear hi)))
  go_loopg [3] k (fun kq v3 w' => ∃ (x3_1 : ByteArray), v3 = .string x3_1 ∧ Aside0 (sprref7_piece.l0 kq x3_1 = some r) ∧ Aside0 (kq ≤ k) ∧ Aside0 (Below w.heap.size w w'))
  case atStart => exact ⟨(t327), (by first | rfl | (simp; done) | (simp [*]; done)), H', ⟨Nat.le_refl _⟩, ⟨by repeat (first | (with_reducible first | exact HB.out | apply below_alloc | apply pw_below_drewN | apply below_drew1) | exact HB.out)⟩⟩
  case round =>
    clear H'
    try clear p2
    try clear c3
    try clear c5
    obtain ⟨x3_1, rfl, HA, HK1, HB⟩ := hrel
    cases gk with
    | zero => exact absurd HA.out (by simp [sprref7_piece.l0])
    | succ k1 =>
      have H := HA.out
      clear HA
      simp only [sprref7_piece.l0] at H
      by_cases c7 : (x3_1.size : Int) > 1
      · rw [if_pos c7] at H
        have c7b0 : decide (1 < (x3_1.size : Int)) = true := decide_eq_true c7
        have c7b1 : decide (1 < x3_1.size) = true := decide_eq_true (by omega)
        clear c7
        by_cases c8 : 0 < (x3_1.size : Int)
        · rw [if_pos c8] at H
          have c8b0 : decide (0 < (x3_1.size : Int)) = true := decide_eq_true c8
          have c8b1 : decide (0 < x3_1.size) = true := decide_eq_true (by omega)
          clear c8
          by_cases c10 : (bt x3_1 0) = 48
          · rw [if_pos c10] at H
            have c10b0 : ((bt x3_1 0) == 48) = true := beq_iff_eq.mpr c10
            have c10b1 : ((bt x3_1 0) != 48) = false := bne_eq_false_iff_eq.mpr c10
            clear c10
            by_cases c11 : 1 ≤ (x3_1.size : Int)
            · rw [if_pos c11] at H
              have c11b0 := eq_true c11
              have c11b1 : decide (1 ≤ (x3_1.size : Int)) = true := decide_eq_true c11
              clear c11
              have H' := Aside0.mk H
              clear H
              have p9 : 0 ≤ (0 : Int) := (by omega)
              have q9 : 0 < x3_1.size := (by have : (0 : Int) < (x3_1.size : Int) := of_decide_eq_true (by first | (with_reducible assumption) | assumption); omega)
              have hx9 : ∀ h : 0 < x3_1.size, ((x3_1[0]'h).toNat : Int) = bt x3_1 0 := bt_at x3_1 0
              clear p9
              have qi9 : (0 < (x3_1.size : Int)) = True := eq_true (of_decide_eq_true (by first | (with_reducible assumption) | assumption))
              replace q9 := eq_true q9
              go_wp2
              go_roundg k1
              case measure => have := HK1.out; omega
              case rel => exact ⟨(x3_1.extract 1 x3_1.size), (by first | rfl | (simp; done) | (simp [*]; done)), H', ⟨by have := HK1.out; omega⟩, ⟨by repeat (first | (with_reducible first | exact HB.out | apply below_alloc | apply pw_below_drewN | apply below_drew1) | exact HB.out)⟩⟩
            · rw [if_neg c11] at H
              exact absurd H (by simp)
          · rw [if_neg c10] at H
            have c10b0 : ((bt x3_1 0) == 48) = false := beq_eq_false_iff_ne.mpr c10
            have c10b1 : ((bt x3_1 0) != 48) = true := bne_iff_ne.mpr c10
            obtain rfl := Option.some.inj H
            have p9 : 0 ≤ (0 : Int) := (by omega)
            have q9 : 0 < x3_1.size := (by have : (0 : Int) < (x3_1.size : Int) := of_decide_eq_true (by first | (with_reducible assumption) | assumption); omega)
            have hx9 : ∀ h : 0 < x3_1.size, ((x3_1[0]'h).toNat : Int) = bt x3_1 0 := bt_at x3_1 0
            clear p9
            have qi9 : (0 < (x3_1.size : Int)) = True := eq_true (of_decide_eq_true (by first | (with_reducible assumption) | assumption))
            replace q9 := eq_true q9
            go_wp2
            go_ret
            exact ⟨by first | rfl | (simp [errW_none, errW_some] <;> rfl) | (simp [*, errW_none, errW_some] <;> rfl), by repeat (first | (with_reducible first | exact HB.out | apply below_alloc | apply pw_below_drewN | apply below_drew1) | exact HB.out)⟩
        · rw [if_neg c8] at H
          exact absurd H (by simp)
      · rw [if_neg c7] at H
        have c7b0 : decide (1 < (x3_1.size : Int)) = false := decide_eq_false c7
        have c7b1 : decide (1 < x3_1.size) = false := decide_eq_false (by omega)
        clear c7
        obtain rfl := Option.some.inj H
        go_wp2
        go_ret
        exact ⟨by first | rfl | (simp [errW_none, errW_some] <;> rfl) | (simp [*, errW_none, errW_some] <;> rfl), by repeat (first | (with_reducible first | exact HB.out | apply below_alloc | apply pw_below_drewN | apply below_drew1) | exact HB.out)⟩

/-! ### sprref7_Print6: function 20 -/
/-- Zeros ahead. -/
def zrun : List Int → Nat
  | [] => 0
  | x :: r => if x = 0 then zrun r + 1 else 0
theorem zrun_le : ∀ l : List Int, zrun l ≤ l.length
  | [] => Nat.le_refl _
  | x :: r => by
    unfold zrun
    have := zrun_le r
    rw [List.length_cons]
    split <;> omega
def refZ : List Int → Nat → Nat → Nat → Nat × Nat
  | [], _, a, m => (a, m)
  | x :: r, i, a, m => if m < zrun (x :: r) then refZ r (i + 1) i (zrun (x :: r)) else refZ r (i + 1) a m
theorem refZ_rng : ∀ (l : List Int) (i a m : Nat), i + l.length = 8 → a ≤ 8 → 1 ≤ m → m ≤ 8 → (refZ l i a m).1 ≤ 8 ∧ 1 ≤ (refZ l i a m).2 ∧ (refZ l i a m).2 ≤ 8
  | [], i, a, m, h, h1, h2, h3 => ⟨h1, h2, h3⟩
  | x :: r, i, a, m, h, h1, h2, h3 => by
    rw [List.length_cons] at h
    have hz := zrun_le (x :: r)
    rw [List.length_cons] at hz
    unfold refZ
    split
    · exact refZ_rng r (i + 1) i _ (by omega) (by omega) (by omega) (by omega)
    · exact refZ_rng r (i + 1) a m (by omega) h1 h2 h3
def refP (k : Nat) (p : List Int) (a m : Nat) : Nat → Nat → ByteArray → Option ByteArray
  | 0, _, _ => none
  | f + 1, i, s => if i < 8 then (if i = a then (if s.size + 2 ≤ 9223372036854775807 then refP k p a m f (i + m) (s ++ (⟨#[58, 58]⟩ : ByteArray)) else none)
      else (sprref7_piece.f k (p.getD i 0)).bind fun t => (if 0 < i ∧ ¬ i = a + m then (if s.size + 1 ≤ 9223372036854775807 ∧ s.size + 1 + t.size ≤ 9223372036854775807 then refP k p a m f (i + 1) ((s ++ (⟨#[58]⟩ : ByteArray)) ++ t) else none)
        else (if s.size + t.size ≤ 9223372036854775807 then refP k p a m f (i + 1) (s ++ t) else none))) else some s
def sprref7_Print6.g (k : Nat) (p : List Int) : Option ByteArray := if p.length = 8 then refP k p (refZ p 0 8 1).1 (refZ p 0 8 1).2 9 0 ⟨#[]⟩ else none
theorem refP_mono (k : Nat) (p : List Int) (a m : Nat) : ∀ f i s, LeO (refP k p a m f i s) (refP (k + 1) p a m f i s)
  | 0, _, _ => LeO.refl _
  | f + 1, i, s => by
    unfold refP
    exact LeO.ite (LeO.ite (LeO.ite (refP_mono k p a m f _ _) (LeO.none _)) (LeO.bind (sprref7_piece.mono _ k) fun t => LeO.ite (LeO.ite (refP_mono k p a m f _ _) (LeO.none _)) (LeO.ite (refP_mono k p a m f _ _) (LeO.none _)))) (LeO.refl _)
theorem sprref7_Print6.gmono (p : List Int) (k : Nat) : LeO (sprref7_Print6.g k p) (sprref7_Print6.g (k + 1) p) := by
  unfold sprref7_Print6.g
  exact LeO.ite (refP_mono k p _ _ _ _ _) (LeO.none _)
theorem zrun_drop (p : List Int) (i : Nat) (x : Int) (h : p[i]? = some x) : zrun (p.drop i) = if x = 0 then zrun (p.drop (i + 1)) + 1 else 0 := by
  obtain ⟨h1, h2⟩ := List.getElem?_eq_some_iff.1 h
  rw [List.drop_eq_getElem_cons h1, h2]
  rfl
theorem refZ_drop (p : List Int) (i a m : Nat) (h : i < p.length) : refZ (p.drop i) i a m = if m < zrun (p.drop i) then refZ (p.drop (i + 1)) (i + 1) i (zrun (p.drop i)) else refZ (p.drop (i + 1)) (i + 1) a m := by
  conv => lhs; rw [List.drop_eq_getElem_cons h]
  conv => rhs; rw [List.drop_eq_getElem_cons h]
  rfl

set_option maxHeartbeats 2000000 in
set_option maxRecDepth 100000 in
theorem sprref7_Print6.gcalls (k : Nat) (p : List Int) (r : ByteArray) (w : World) (h : sprref7_Print6.g k p = some r) :
    Calls Tryd.prog 20 #[.agg (arrV p)] w fun e w' => e = .returned (.string r) ∧ Below w.heap.size w w' := by
  unfold sprref7_Print6.g at h
  by_cases hp : p.length = 8
  case neg => rw [if_neg hp] at h; cases h
  rw [if_pos hp] at h
  have hrng := refZ_rng p 0 8 1 (by omega) (by decide) (by decide) (by decide)
  have HRNG := Aside0.mk hrng
  have HF := Aside0.mk h
  have HP := Aside0.mk hp
  clear h hrng hp
  obtain ⟨A, hA⟩ : ∃ A, A = arrV p := ⟨_, rfl⟩
  rw [← hA]
  have HA := Aside0.mk hA
  clear hA
  have hu := Tryd.underlying23
  obtain ⟨w0, hw0⟩ : ∃ w0, w0 = w.alloc (.cells A 23) := ⟨_, rfl⟩
  have HB0 : Aside0 (Below w.heap.size w w0) := ⟨by rw [hw0]; exact below_alloc (Below.refl _ _) _⟩
  have HZ0 : Aside0 (w0.heap[w.heap.size]? = some (.cells (arrV p) 23 (0, 0))) := ⟨by rw [hw0, ← HA.out]; exact blk_new _ _⟩
  go_enter Tryd.func20, Tryd.ntmps20
  go_wp2_with fail
  rw [← hw0]
  clear hw0
  go_loopw [3, 4, 5] (fun v3 v4 v5 wr => ∃ (a m i : Nat), v3 = .int .i64 (a : Int) ∧ v4 = .int .i64 (m : Int) ∧ v5 = .int .i64 (i : Int) ∧ Aside0 (i ≤ 8) ∧ Aside0 (refZ (p.drop i) i a m = refZ p 0 8 1) ∧ wr = w0) (fun _ _ v5 _ => 8 - (intOf v5).toNat)
  case atStart => exact ⟨8, 1, 0, rfl, rfl, rfl, ⟨by decide⟩, ⟨rfl⟩, rfl⟩
  case round =>
    obtain ⟨a, m, i, rfl, rfl, rfl, hi, hR, rfl⟩ := hrel
    have hw1 : wrap64 ((i : Int) + 1) = (i : Int) + 1 := by have := hi.out; unfold wrap64; omega
    by_cases h8 : i < 8
    · have q1 : decide ((i : Int) < 8) = true := decide_eq_true (by omega)
      have HI8 := Aside0.mk h8
      go_wp2
      go_loopw [6] (fun v6 wr2 => ∃ n : Nat, v6 = .int .i64 (n : Int) ∧ Aside0 (i + n ≤ 8) ∧ Aside0 (zrun (p.drop i) = n + zrun (p.drop (i + n))) ∧ wr2 = wr) (fun v6 _ => 8 - (intOf v6).toNat)
      case atStart => exact ⟨0, rfl, ⟨by omega⟩, ⟨by rw [Nat.zero_add]; rfl⟩, rfl⟩
      case round =>
        obtain ⟨n, rfl, hn, hz, rfl⟩ := hrel
        have hn' := hn.out
        have hwn : wrap64 ((i : Int) + (n : Int)) = (i : Int) + (n : Int) := by unfold wrap64; omega
        have hw2 : wrap64 ((n : Int) + 1) = (n : Int) + 1 := by unfold wrap64; omega
        have hR2 := hR.out
        rw [refZ_drop p i a m (by rw [HP.out]; exact h8)] at hR2
        by_cases hlt : i + n < 8
        · obtain ⟨x, hx⟩ : ∃ x, p[i + n]? = some x := ⟨p[i + n]'(by rw [HP.out]; exact hlt), List.getElem?_eq_getElem _⟩
          have q2 : decide ((i : Int) + (n : Int) < 8) = true := decide_eq_true (by omega)
          have p1 := eq_true (show (0 : Int) ≤ (i : Int) + (n : Int) by omega)
          have p2 := eq_true (show (i : Int) + (n : Int) < 8 by omega)
          have hcell := (blk_cell HZ0.out (i + n)).trans (arr_at p (i + n) x hx)
          have hz2 := hz.out
          rw [zrun_drop p (i + n) x hx] at hz2
          by_cases hx0 : x = 0
          · subst hx0
            rw [if_pos rfl] at hz2
            have HZ2 : Aside0 (zrun (p.drop i) = (n + 1) + zrun (p.drop (i + (n + 1)))) := ⟨by rw [hz2, show i + (n + 1) = i + n + 1 by omega]; omega⟩
            clear hz2 hR2 hx
            go_wp2
            go_roundw
            case measure => exact meas (by omega) rfl
            case rel => exact ⟨n + 1, rfl, ⟨by omega⟩, HZ2, trivial⟩
          · rw [if_neg hx0] at hz2
            have hzn : zrun (p.drop i) = n := hz2
            have e1 : (x == 0) = false := beq_eq_false_iff_ne.2 hx0
            clear hz2 hx hx0
            by_cases hg : m < n
            · have q3 : (m < n) = True := eq_true hg
              rw [hzn, if_pos hg] at hR2
              have HR2 := Aside0.mk hR2
              clear hR2 hzn hg
              go_wp2
              go_roundw
              case measure => exact meas h8 rfl
              case rel => exact ⟨i, n, i + 1, rfl, rfl, rfl, ⟨h8⟩, HR2, trivial⟩
            · have q3 : (m < n) = False := eq_false hg
              rw [hzn, if_neg hg] at hR2
              have HR2 := Aside0.mk hR2
              clear hR2 hzn hg
              go_wp2
              go_roundw
              case measure => exact meas h8 rfl
              case rel => exact ⟨a, m, i + 1, rfl, rfl, rfl, ⟨h8⟩, HR2, trivial⟩
        · have q2 : decide ((i : Int) + (n : Int) < 8) = false := decide_eq_false (by omega)
          have hzn : zrun (p.drop i) = n := by have z := hz.out; rw [List.drop_eq_nil_of_le (show p.length ≤ i + n by rw [HP.out]; omega)] at z; exact z
          by_cases hg : m < n
          · have q3 : (m < n) = True := eq_true hg
            rw [hzn, if_pos hg] at hR2
            have HR2 := Aside0.mk hR2
            clear hR2 hzn hg
            go_wp2
            go_roundw
            case measure => exact meas h8 rfl
            case rel => exact ⟨i, n, i + 1, rfl, rfl, rfl, ⟨h8⟩, HR2, trivial⟩
          · have q3 : (m < n) = False := eq_false hg
            rw [hzn, if_neg hg] at hR2
            have HR2 := Aside0.mk hR2
            clear hR2 hzn hg
            go_wp2
            go_roundw
            case measure => exact meas h8 rfl
            case rel => exact ⟨a, m, i + 1, rfl, rfl, rfl, ⟨h8⟩, HR2, trivial⟩
    · have q1 : decide ((i : Int) < 8) = false := decide_eq_false (by omega)
      have hR2 := hR.out
      rw [List.drop_eq_nil_of_le (show p.length ≤ i by rw [HP.out]; omega), refZ] at hR2
      have hF := HF.out
      rw [← hR2] at hF
      have hrng := HRNG.out
      rw [← hR2] at hrng
      have HF2 := Aside0.mk hF
      have HR2 := Aside0.mk hrng
      clear hF hR2 hrng HF HRNG hR h8
      go_wp2
      clear q1 hw1
      go_loopg [7, 8] 9 (fun kq v7 v8 w' => ∃ (s : ByteArray) (j : Nat), v7 = .string s ∧ v8 = .int .i64 (j : Int) ∧ Aside0 (refP k p a m kq j s = some r) ∧ Aside0 (j ≤ 16) ∧ Aside0 (kq ≤ 9) ∧ Aside0 (w'.heap[w.heap.size]? = some (.cells (arrV p) 23 (0, 0))) ∧ Aside0 (Below w.heap.size w w'))
      case atStart => exact ⟨⟨#[]⟩, 0, rfl, rfl, HF2, ⟨by decide⟩, ⟨Nat.le_refl _⟩, HZ0, HB0⟩
      case round =>
        clear HF2 HZ0 HB0
        obtain ⟨s, j, rfl, rfl, HF, HJ, HK, HZ, HB⟩ := hrel
        cases gk with
        | zero => exact absurd HF.out (by simp [refP])
        | succ f =>
          have hF := HF.out
          clear HF
          rw [refP] at hF
          have hr := HR2.out
          have hj := HJ.out
          have hw1 : wrap64 ((j : Int) + 1) = (j : Int) + 1 := by unfold wrap64; omega
          have hw2 : wrap64 ((a : Int) + (m : Int)) = (a : Int) + (m : Int) := by unfold wrap64; omega
          have hw3 : wrap64 ((m : Int) - 1) = (m : Int) - 1 := by unfold wrap64; omega
          have hw4 : wrap64 ((j : Int) + ((m : Int) - 1)) = (j : Int) + ((m : Int) - 1) := by unfold wrap64; omega
          have hw5 : wrap64 ((j : Int) + ((m : Int) - 1) + 1) = ((j + m : Nat) : Int) := by unfold wrap64; omega
          by_cases h8 : j < 8
          · rw [if_pos h8] at hF
            have q1 : decide ((j : Int) < 8) = true := decide_eq_true (by omega)
            have H8 := Aside0.mk h8
            by_cases hja : j = a
            · rw [if_pos hja] at hF
              subst hja
              split at hF
              · rename_i hsz
                have b1 : (9223372036854775807 < s.size + 2) = False := eq_false (by omega)
                have HF3 := Aside0.mk hF
                clear hF hr hj hsz h8
                go_wp2
                go_roundg f
                case measure => have := HK.out; omega
                case rel => exact ⟨_, j + m, rfl, by first | rfl | rw [hw5], HF3, ⟨by have := HR2.out; have := H8.out; omega⟩, ⟨by have := HK.out; omega⟩, HZ, HB⟩
              · cases hF
            · rw [if_neg hja] at hF
              have e1 : ((j : Int) == (a : Int)) = false := beq_eq_false_iff_ne.2 (by omega)
              have e1' : (j == a) = false := beq_eq_false_iff_ne.2 hja
              have e1'' : (j = a) = False := eq_false hja
              obtain ⟨x, hx⟩ : ∃ x, p[j]? = some x := ⟨p[j]'(by rw [HP.out]; exact h8), List.getElem?_eq_getElem _⟩
              have hcell := (blk_cell HZ.out j).trans (arr_at p j x hx)
              obtain ⟨t, ht, hF⟩ := Option.bind_eq_some_iff.1 hF
              rw [show p.getD j 0 = x by rw [List.getD_eq_getElem?_getD, hx]; rfl] at ht
              have p1 := eq_true (show (0 : Int) ≤ (j : Int) by omega)
              have p2 := eq_true (show (j : Int) < 8 by omega)
              by_cases h0 : 0 < j ∧ ¬ j = a + m
              · rw [if_pos h0] at hF
                split at hF
                · rename_i hsz
                  have q2 : decide ((0 : Int) < (j : Int)) = true := decide_eq_true (by omega)
                  have q2' : (0 < j) = True := eq_true h0.1
                  have q3 : ((j : Int) != (a : Int) + (m : Int)) = true := bne_iff_ne.2 (by omega)
                  have b1 : (9223372036854775807 < s.size + 1) = False := eq_false (by omega)
                  have b2 : (9223372036854775807 < s.size + 1 + t.size) = False := eq_false (by omega)
                  have HF3 := Aside0.mk hF
                  clear hF hr hj hsz h8 h0 hx hja
                  go_wp2_with (go_at_call 36; (with_reducible refine (sprref7_piece.calls k x t _ ht).mono ?_); rintro e w2 ⟨rfl, hb⟩; have HZ2 := Aside0.mk (blk_below HZ.out hb); have HB2 := Aside0.mk (HB.out.trans (hb.mono HB.out.size)); clear hb HZ HB)
                  go_roundg f
                  case measure => have := HK.out; omega
                  case rel => exact ⟨_, j + 1, rfl, by first | rfl | (rw [hw1]; rfl), HF3, ⟨by have := H8.out; omega⟩, ⟨by have := HK.out; omega⟩, HZ2, HB2⟩
                · cases hF
              · rw [if_neg h0] at hF
                split at hF
                · rename_i hsz
                  have b1 : (9223372036854775807 < s.size + t.size) = False := eq_false (by omega)
                  have HF3 := Aside0.mk hF
                  by_cases hj0 : 0 < j
                  · have q2 : decide ((0 : Int) < (j : Int)) = true := decide_eq_true (by omega)
                    have q2' : (0 < j) = True := eq_true hj0
                    have q3 : ((j : Int) != (a : Int) + (m : Int)) = false := bne_eq_false_iff_eq.2 (by omega)
                    clear hF hr hj hsz h8 h0 hx hja hj0
                    go_wp2_with (go_at_call 36; (with_reducible refine (sprref7_piece.calls k x t _ ht).mono ?_); rintro e w2 ⟨rfl, hb⟩; have HZ2 := Aside0.mk (blk_below HZ.out hb); have HB2 := Aside0.mk (HB.out.trans (hb.mono HB.out.size)); clear hb HZ HB)
                    go_roundg f
                    case measure => have := HK.out; omega
                    case rel => exact ⟨_, j + 1, rfl, by first | rfl | (rw [hw1]; rfl), HF3, ⟨by have := H8.out; omega⟩, ⟨by have := HK.out; omega⟩, HZ2, HB2⟩
                  · have q2 : decide ((0 : Int) < (j : Int)) = false := decide_eq_false (by omega)
                    have q2' : (0 < j) = False := eq_false hj0
                    clear hF hr hj hsz h8 h0 hx hja hj0
                    go_wp2_with (go_at_call 36; (with_reducible refine (sprref7_piece.calls k x t _ ht).mono ?_); rintro e w2 ⟨rfl, hb⟩; have HZ2 := Aside0.mk (blk_below HZ.out hb); have HB2 := Aside0.mk (HB.out.trans (hb.mono HB.out.size)); clear hb HZ HB)
                    go_roundg f
                    case measure => have := HK.out; omega
                    case rel => exact ⟨_, j + 1, rfl, by first | rfl | (rw [hw1]; rfl), HF3, ⟨by have := H8.out; omega⟩, ⟨by have := HK.out; omega⟩, HZ2, HB2⟩
                · cases hF
          · rw [if_neg h8] at hF
            have q1 : decide ((j : Int) < 8) = false := decide_eq_false (by omega)
            obtain rfl := Option.some.inj hF
            clear hF hr hj h8
            go_wp2
            go_ret
            exact ⟨rfl, HB.out⟩


end Go.Proofs.YtldkhokpedfhdaaDoor.Q
