-- Written by a program of this session's (wip/xprint.py), out of the seat's translation.
import Derived.Test.YtnkmhgfhdgledaaDoorR0
import Derived.Test.YtnkmhgfhdgledaaDoorR6
import Derived.Test.YtnkmhgfhdgledaaDoorR7
namespace Go.Proofs.YtnkmhgfhdgledaaDoor.R
open Go.RowKit Go.Proofs.YtnkmhgfhdgledaaDoorW.PrintWords Go.Proofs.YtnkmhgfhdgledaaDoorW.PrintLast Go.Proofs.YtnkmhgfhdgledaaDoorW.PrintMore
attribute [local go_sem] max2_int min2_int max_two min_two max_three min_three max_four min_four   -- for this text's walks alone
set_option linter.unusedVariables false
set_option linter.unusedSimpArgs false

/-! ### sprlaw15_DateYears: function 8 -/
mutual
def sprlaw15_DateYears.j0 : Nat → Int → Int → ByteArray → Bool → Option (Bool)
  | 0, _, _, _, _ => none
  | k + 1, x0, x1, x5, x45 => if x45 = true then ((sprlaw15_first.f k).bind fun t376 => (some t376)) else (sprlaw15_DateYears.l0 k x0 x1 x5 0 12)
def sprlaw15_DateYears.l0 : Nat → Int → Int → ByteArray → Int → Int → Option (Bool)
  | 0, _, _, _, _, _ => none
  | k + 1, x0, x1, x5, x7, x8 => if x8 < 16 then (if 0 ≤ x8 then (if x8 < (x5.size : Int) then (sprlaw15_DateYears.l0 k x0 x1 x5 (wrap64 ((wrap64 (10 * x7)) + (((bt x5 x8) - 48) % 256))) (wrap64 (x8 + 1))) else (none)) else (none)) else ((some (([(wrap64 (48 + (wrap64 (Int.tdiv x0 10)))) % 256, (wrap64 (48 + (Int.tmod x0 10))) % 256] : List Int) : List Int)).bind fun y377 => (if 15 + (strOfNums y377).size ≤ 9223372036854775807 then (if ((⟨#[83, 117, 110, 100, 97, 121, 44, 32, 49, 53, 45, 74, 117, 110, 45]⟩ : ByteArray) ++ (strOfNums y377)).size + 13 ≤ 9223372036854775807 then ((date_Parse.f k (((⟨#[83, 117, 110, 100, 97, 121, 44, 32, 49, 53, 45, 74, 117, 110, 45]⟩ : ByteArray) ++ (strOfNums y377)) ++ (⟨#[32, 49, 50, 58, 48, 48, 58, 48, 48, 32, 71, 77, 84]⟩ : ByteArray)) x1).bind fun bt380 => ((date_Print.f k bt380.1).bind fun bt382 => (if bt380.2 = 0 then (if bt382.2 = 0 then (sprlaw15_DateYears.j2 k x0 x7 bt382.1 (decide ((bt382.1.size : Int) < 16))) else (sprlaw15_DateYears.j2 k x0 x7 bt382.1 true)) else (sprlaw15_DateYears.j2 k x0 x7 bt382.1 true)))) else (none)) else (none)))
def sprlaw15_DateYears.j2 : Nat → Int → Int → ByteArray → Bool → Option (Bool)
  | 0, _, _, _, _ => none
  | k + 1, x0, x7, x12, x92 => if x92 = true then (some false) else (sprlaw15_DateYears.l1 k x0 x7 x12 0 12)
def sprlaw15_DateYears.l1 : Nat → Int → Int → ByteArray → Int → Int → Option (Bool)
  | 0, _, _, _, _, _ => none
  | k + 1, x0, x7, x12, x14, x15 => if x15 < 16 then (if 0 ≤ x15 then (if x15 < (x12.size : Int) then (sprlaw15_DateYears.l1 k x0 x7 x12 (wrap64 ((wrap64 (10 * x14)) + (((bt x12 x15) - 48) % 256))) (wrap64 (x15 + 1))) else (none)) else (none)) else ((sprlaw15_first.f k).bind fun t384 => (if t384 = true then (if (Int.tmod x14 100) = x0 then (if x14 ≤ (wrap64 (x7 + 50)) then (some (decide (x14 > (wrap64 (x7 - 50))))) else (some false)) else (some false)) else (some false)))
end
def sprlaw15_DateYears.f (k : Nat) (a0 : Int) (a1 : Int) : Option (Bool) := (sprlaw15_first.f k).bind fun t373 => (if t373 = true then ((date_Print.f k a1).bind fun bt374 => (if bt374.2 = 0 then (if (bt374.1.size : Int) < 16 then (sprlaw15_DateYears.j0 k a0 a1 bt374.1 true) else (if a0 < 0 then (sprlaw15_DateYears.j0 k a0 a1 bt374.1 true) else (if a0 > 99 then (sprlaw15_DateYears.j0 k a0 a1 bt374.1 true) else (if a1 < 0 then (sprlaw15_DateYears.j0 k a0 a1 bt374.1 true) else (sprlaw15_DateYears.j0 k a0 a1 bt374.1 (decide (a1 > 200000000000))))))) else (sprlaw15_DateYears.j0 k a0 a1 bt374.1 true))) else (some false))
theorem sprlaw15_DateYears.mono_l : ∀ k, (∀ y0 y1 y2 y3, LeO (sprlaw15_DateYears.j0 k y0 y1 y2 y3) (sprlaw15_DateYears.j0 (k + 1) y0 y1 y2 y3)) ∧ (∀ y0 y1 y2 y3 y4, LeO (sprlaw15_DateYears.l0 k y0 y1 y2 y3 y4) (sprlaw15_DateYears.l0 (k + 1) y0 y1 y2 y3 y4)) ∧ (∀ y0 y1 y2 y3, LeO (sprlaw15_DateYears.j2 k y0 y1 y2 y3) (sprlaw15_DateYears.j2 (k + 1) y0 y1 y2 y3)) ∧ (∀ y0 y1 y2 y3 y4, LeO (sprlaw15_DateYears.l1 k y0 y1 y2 y3 y4) (sprlaw15_DateYears.l1 (k + 1) y0 y1 y2 y3 y4))
  | 0 => ⟨fun _ _ _ _ r h => by simp [sprlaw15_DateYears.j0] at h, fun _ _ _ _ _ r h => by simp [sprlaw15_DateYears.l0] at h, fun _ _ _ _ r h => by simp [sprlaw15_DateYears.j2] at h, fun _ _ _ _ _ r h => by simp [sprlaw15_DateYears.l1] at h⟩
  | k + 1 => by
    obtain ⟨ih0, ih1, ih2, ih3⟩ := sprlaw15_DateYears.mono_l k
    refine ⟨?_, ?_, ?_, ?_⟩
    · intro y0 y1 y2 y3
      unfold sprlaw15_DateYears.j0
      repeat' first
      | (with_reducible exact ih0 _ _ _ _)
      | (with_reducible exact ih1 _ _ _ _ _)
      | (with_reducible exact ih2 _ _ _ _)
      | (with_reducible exact ih3 _ _ _ _ _)
      | (with_reducible exact date_Parse.mono _ _ _)
      | (with_reducible exact date_Print.mono _ _)
      | (with_reducible exact sprlaw15_first.mono _)
      | (with_reducible exact LeO.refl _)
      | (with_reducible exact LeO.none _)
      | (with_reducible refine LeO.ite ?_ ?_)
      | (with_reducible refine LeO.bind ?_ (fun _ => ?_))
      | exact ih0 _ _ _ _
      | exact ih1 _ _ _ _ _
      | exact ih2 _ _ _ _
      | exact ih3 _ _ _ _ _
      | exact date_Parse.mono _ _ _
      | exact date_Print.mono _ _
      | exact sprlaw15_first.mono _
      | exact LeO.none _
      | refine LeO.ite ?_ ?_
      | refine LeO.bind ?_ (fun _ => ?_)
    · intro y0 y1 y2 y3 y4
      unfold sprlaw15_DateYears.l0
      repeat' first
      | (with_reducible exact ih0 _ _ _ _)
      | (with_reducible exact ih1 _ _ _ _ _)
      | (with_reducible exact ih2 _ _ _ _)
      | (with_reducible exact ih3 _ _ _ _ _)
      | (with_reducible exact date_Parse.mono _ _ _)
      | (with_reducible exact date_Print.mono _ _)
      | (with_reducible exact sprlaw15_first.mono _)
      | (with_reducible exact LeO.refl _)
      | (with_reducible exact LeO.none _)
      | (with_reducible refine LeO.ite ?_ ?_)
      | (with_reducible refine LeO.bind ?_ (fun _ => ?_))
      | exact ih0 _ _ _ _
      | exact ih1 _ _ _ _ _
      | exact ih2 _ _ _ _
      | exact ih3 _ _ _ _ _
      | exact date_Parse.mono _ _ _
      | exact date_Print.mono _ _
      | exact sprlaw15_first.mono _
      | exact LeO.none _
      | refine LeO.ite ?_ ?_
      | refine LeO.bind ?_ (fun _ => ?_)
    · intro y0 y1 y2 y3
      unfold sprlaw15_DateYears.j2
      repeat' first
      | (with_reducible exact ih0 _ _ _ _)
      | (with_reducible exact ih1 _ _ _ _ _)
      | (with_reducible exact ih2 _ _ _ _)
      | (with_reducible exact ih3 _ _ _ _ _)
      | (with_reducible exact date_Parse.mono _ _ _)
      | (with_reducible exact date_Print.mono _ _)
      | (with_reducible exact sprlaw15_first.mono _)
      | (with_reducible exact LeO.refl _)
      | (with_reducible exact LeO.none _)
      | (with_reducible refine LeO.ite ?_ ?_)
      | (with_reducible refine LeO.bind ?_ (fun _ => ?_))
      | exact ih0 _ _ _ _
      | exact ih1 _ _ _ _ _
      | exact ih2 _ _ _ _
      | exact ih3 _ _ _ _ _
      | exact date_Parse.mono _ _ _
      | exact date_Print.mono _ _
      | exact sprlaw15_first.mono _
      | exact LeO.none _
      | refine LeO.ite ?_ ?_
      | refine LeO.bind ?_ (fun _ => ?_)
    · intro y0 y1 y2 y3 y4
      unfold sprlaw15_DateYears.l1
      repeat' first
      | (with_reducible exact ih0 _ _ _ _)
      | (with_reducible exact ih1 _ _ _ _ _)
      | (with_reducible exact ih2 _ _ _ _)
      | (with_reducible exact ih3 _ _ _ _ _)
      | (with_reducible exact date_Parse.mono _ _ _)
      | (with_reducible exact date_Print.mono _ _)
      | (with_reducible exact sprlaw15_first.mono _)
      | (with_reducible exact LeO.refl _)
      | (with_reducible exact LeO.none _)
      | (with_reducible refine LeO.ite ?_ ?_)
      | (with_reducible refine LeO.bind ?_ (fun _ => ?_))
      | exact ih0 _ _ _ _
      | exact ih1 _ _ _ _ _
      | exact ih2 _ _ _ _
      | exact ih3 _ _ _ _ _
      | exact date_Parse.mono _ _ _
      | exact date_Print.mono _ _
      | exact sprlaw15_first.mono _
      | exact LeO.none _
      | refine LeO.ite ?_ ?_
      | refine LeO.bind ?_ (fun _ => ?_)
theorem sprlaw15_DateYears.mono : ∀ a0 a1 k, LeO (sprlaw15_DateYears.f k a0 a1) (sprlaw15_DateYears.f (k + 1) a0 a1) := by
  intro a0 a1 k
  obtain ⟨ih0, ih1, ih2, ih3⟩ := sprlaw15_DateYears.mono_l k
  unfold sprlaw15_DateYears.f
  repeat' first
      | (with_reducible exact ih0 _ _ _ _)
      | (with_reducible exact ih1 _ _ _ _ _)
      | (with_reducible exact ih2 _ _ _ _)
      | (with_reducible exact ih3 _ _ _ _ _)
      | (with_reducible exact date_Parse.mono _ _ _)
      | (with_reducible exact date_Print.mono _ _)
      | (with_reducible exact sprlaw15_first.mono _)
      | (with_reducible exact LeO.refl _)
      | (with_reducible exact LeO.none _)
      | (with_reducible refine LeO.ite ?_ ?_)
      | (with_reducible refine LeO.bind ?_ (fun _ => ?_))
      | exact ih0 _ _ _ _
      | exact ih1 _ _ _ _ _
      | exact ih2 _ _ _ _
      | exact ih3 _ _ _ _ _
      | exact date_Parse.mono _ _ _
      | exact date_Print.mono _ _
      | exact sprlaw15_first.mono _
      | exact LeO.none _
      | refine LeO.ite ?_ ?_
      | refine LeO.bind ?_ (fun _ => ?_)
set_option maxHeartbeats 2000000 in
set_option maxRecDepth 100000 in
theorem sprlaw15_DateYears.calls (k : Nat) (a0 : Int) (a1 : Int) (r : Bool) (w : World) (h : sprlaw15_DateYears.f k a0 a1 = some r) (hT : Aside0 (r = true)) (hT0 : Lib.TabIs Tryd.prog w "internal/strconv.uint64pow10" .u64 Lib.pow10Tab) :
    Calls Tryd.prog 8 #[.int .i64 a0, .int .i64 a1] w fun e w' => e = .returned (.bool r) ∧ Below w.heap.size w w' := by
  have HT0 := Aside0.mk hT0
  clear hT0
  have HB := Aside0.mk (Below.refl w.heap.size w)
  have H : ((sprlaw15_first.f k).bind fun t373 => (if t373 = true then ((date_Print.f k a1).bind fun bt374 => (if bt374.2 = 0 then (if (bt374.1.size : Int) < 16 then (sprlaw15_DateYears.j0 k a0 a1 bt374.1 true) else (if a0 < 0 then (sprlaw15_DateYears.j0 k a0 a1 bt374.1 true) else (if a0 > 99 then (sprlaw15_DateYears.j0 k a0 a1 bt374.1 true) else (if a1 < 0 then (sprlaw15_DateYears.j0 k a0 a1 bt374.1 true) else (sprlaw15_DateYears.j0 k a0 a1 bt374.1 (decide (a1 > 200000000000))))))) else (sprlaw15_DateYears.j0 k a0 a1 bt374.1 true))) else (some false))) = some r := h
  clear h
  replace H := Option.bind_eq_some_iff.mp H
  obtain ⟨t373, A30, H⟩ := H
  replace H : (if t373 = true then ((date_Print.f k a1).bind fun bt374 => (if bt374.2 = 0 then (if (bt374.1.size : Int) < 16 then (sprlaw15_DateYears.j0 k a0 a1 bt374.1 true) else (if a0 < 0 then (sprlaw15_DateYears.j0 k a0 a1 bt374.1 true) else (if a0 > 99 then (sprlaw15_DateYears.j0 k a0 a1 bt374.1 true) else (if a1 < 0 then (sprlaw15_DateYears.j0 k a0 a1 bt374.1 true) else (sprlaw15_DateYears.j0 k a0 a1 bt374.1 (decide (a1 > 200000000000))))))) else (sprlaw15_DateYears.j0 k a0 a1 bt374.1 true))) else (some false)) = some r := H
  have A3 := Aside0.mk A30
  clear A30
  by_cases c4 : t373 = true
  · subst c4
    have H1 : ((date_Print.f k a1).bind fun bt374 => (if bt374.2 = 0 then (if (bt374.1.size : Int) < 16 then (sprlaw15_DateYears.j0 k a0 a1 bt374.1 true) else (if a0 < 0 then (sprlaw15_DateYears.j0 k a0 a1 bt374.1 true) else (if a0 > 99 then (sprlaw15_DateYears.j0 k a0 a1 bt374.1 true) else (if a1 < 0 then (sprlaw15_DateYears.j0 k a0 a1 bt374.1 true) else (sprlaw15_DateYears.j0 k a0 a1 bt374.1 (decide (a1 > 200000000000))))))) else (sprlaw15_DateYears.j0 k a0 a1 bt374.1 true))) = some r := by rw [if_pos rfl] at H; exact H
    clear H
    have H := H1
    clear H1
    replace H := Option.bind_eq_some_iff.mp H
    obtain ⟨⟨t374, t375⟩, A50, H⟩ := H
    replace H : (if t375 = 0 then (if (t374.size : Int) < 16 then (sprlaw15_DateYears.j0 k a0 a1 t374 true) else (if a0 < 0 then (sprlaw15_DateYears.j0 k a0 a1 t374 true) else (if a0 > 99 then (sprlaw15_DateYears.j0 k a0 a1 t374 true) else (if a1 < 0 then (sprlaw15_DateYears.j0 k a0 a1 t374 true) else (sprlaw15_DateYears.j0 k a0 a1 t374 (decide (a1 > 200000000000))))))) else (sprlaw15_DateYears.j0 k a0 a1 t374 true)) = some r := H
    have A5 := Aside0.mk A50
    clear A50
    have HC6 := Aside0.mk H
    clear H
    go_enter Tryd.func8, Tryd.ntmps8
    go_upto_region 4 with (first | ((with_reducible refine gate_callee (f := 9) rfl ?_); refine goesL_ (some 16) rfl rfl Tryd.func9 (by kernel_rfl) rfl #[] rfl (by (try simp only [List.map_toArray, List.map_cons, List.map_nil]); first | done | rfl | (simp only [List.length_drop, List.length_take]; rfl)) ?_; (with_reducible refine (sprlaw15_first.calls k  true _ A3.out).mono ?_); rintro e w7 ⟨rfl, hb⟩; refine ⟨_, rfl, ?_⟩; have n0_ := Aside0.mk (below_step (by repeat (first | (with_reducible first | exact HB.out | apply below_alloc | apply pw_below_drewN | apply below_drew1) | exact HB.out)) hb); clear HB; have HB := n0_; clear n0_; (try clear hb); (try clear hb2); (try clear hk); (try clear hi)) | ((with_reducible refine gate_callee (f := 12) rfl ?_); refine goesL_ (some 20) rfl rfl Tryd.func12 (by kernel_rfl) rfl #[.int .i64 a1] rfl (by (try simp only [List.map_toArray, List.map_cons, List.map_nil]); first | done | rfl | (simp only [List.length_drop, List.length_take]; rfl)) ?_; (with_reducible refine (date_Print.calls k a1 t374 t375 _ A5.out (tab_below HT0.out (by repeat (first | (with_reducible first | exact HB.out | apply below_alloc | apply pw_below_drewN | apply below_drew1) | exact HB.out)))).mono ?_); rintro e w8 ⟨rfl, hb⟩; refine ⟨_, rfl, ?_⟩; have n0_ := Aside0.mk (below_step (by repeat (first | (with_reducible first | exact HB.out | apply below_alloc | apply pw_below_drewN | apply below_drew1) | exact HB.out)) hb); clear HB; have HB := n0_; clear n0_; (try clear hb); (try clear hb2); (try clear hk); (try clear hi)))
    (try simp only [Act.put, List.setIfInBounds_toArray, List.set_cons_zero, List.set_cons_succ])
    go_cut [45] (fun v45 wc => ∃ (kq : Nat) (x45_5 : Bool), v45 = .bool x45_5 ∧ Aside0 (sprlaw15_DateYears.j0 kq a0 a1 t374 x45_5 = some r) ∧ Aside0 (kq ≤ k) ∧ Aside0 (Below w.heap.size w wc))
    case first =>
      have H := HC6.out
      clear HC6
      by_cases c9 : t375 = 0
      · rw [if_pos c9] at H
        have c9b0 : (t375 == 0) = true := beq_iff_eq.mpr c9
        have c9b1 : (t375 != 0) = false := bne_eq_false_iff_eq.mpr c9
        clear c9
        (first | rw [c9b0] | (simp only [i64_w, i32_w]; rw [c9b0]) | skip)
        by_cases c10 : (t374.size : Int) < 16
        · rw [if_pos c10] at H
          have c10b0 : decide ((t374.size : Int) < 16) = true := decide_eq_true c10
          have c10b1 : decide (t374.size < 16) = true := decide_eq_true (by omega)
          clear c10
          have H' := Aside0.mk H
          clear H
          go_wp2
          go_meet
          case rel => exact ⟨_, (true), (by first | rfl | (simp; done) | (simp [*]; done)), H', ⟨by first | omega | exact Nat.le_refl _⟩, ⟨by repeat (first | (with_reducible first | exact HB.out | apply below_alloc | apply pw_below_drewN | apply below_drew1) | exact HB.out)⟩⟩
        · rw [if_neg c10] at H
          have c10b0 : decide ((t374.size : Int) < 16) = false := decide_eq_false c10
          have c10b1 : decide (t374.size < 16) = false := decide_eq_false (by omega)
          clear c10
          by_cases c11 : a0 < 0
          · rw [if_pos c11] at H
            have c11b0 : decide (a0 < 0) = true := decide_eq_true c11
            clear c11
            have H' := Aside0.mk H
            clear H
            go_wp2
            go_meet
            case rel => exact ⟨_, (true), (by first | rfl | (simp; done) | (simp [*]; done)), H', ⟨by first | omega | exact Nat.le_refl _⟩, ⟨by repeat (first | (with_reducible first | exact HB.out | apply below_alloc | apply pw_below_drewN | apply below_drew1) | exact HB.out)⟩⟩
          · rw [if_neg c11] at H
            have c11b0 : decide (a0 < 0) = false := decide_eq_false c11
            clear c11
            by_cases c12 : a0 > 99
            · rw [if_pos c12] at H
              have c12b0 : decide (99 < a0) = true := decide_eq_true c12
              clear c12
              have H' := Aside0.mk H
              clear H
              go_wp2
              go_meet
              case rel => exact ⟨_, (true), (by first | rfl | (simp; done) | (simp [*]; done)), H', ⟨by first | omega | exact Nat.le_refl _⟩, ⟨by repeat (first | (with_reducible first | exact HB.out | apply below_alloc | apply pw_below_drewN | apply below_drew1) | exact HB.out)⟩⟩
            · rw [if_neg c12] at H
              have c12b0 : decide (99 < a0) = false := decide_eq_false c12
              clear c12
              by_cases c13 : a1 < 0
              · rw [if_pos c13] at H
                have c13b0 : decide (a1 < 0) = true := decide_eq_true c13
                clear c13
                have H' := Aside0.mk H
                clear H
                go_wp2
                go_meet
                case rel => exact ⟨_, (true), (by first | rfl | (simp; done) | (simp [*]; done)), H', ⟨by first | omega | exact Nat.le_refl _⟩, ⟨by repeat (first | (with_reducible first | exact HB.out | apply below_alloc | apply pw_below_drewN | apply below_drew1) | exact HB.out)⟩⟩
              · rw [if_neg c13] at H
                have c13b0 : decide (a1 < 0) = false := decide_eq_false c13
                clear c13
                have H' := Aside0.mk H
                clear H
                go_wp2
                go_meet
                case rel => exact ⟨_, (decide (a1 > 200000000000)), (by first | rfl | (simp; done) | (simp [*]; done)), H', ⟨by first | omega | exact Nat.le_refl _⟩, ⟨by repeat (first | (with_reducible first | exact HB.out | apply below_alloc | apply pw_below_drewN | apply below_drew1) | exact HB.out)⟩⟩
      · rw [if_neg c9] at H
        have c9b0 : (t375 == 0) = false := beq_eq_false_iff_ne.mpr c9
        have c9b1 : (t375 != 0) = true := bne_iff_ne.mpr c9
        (first | rw [c9b0] | (simp only [i64_w, i32_w]; rw [c9b0]) | skip)
        have H' := Aside0.mk H
        clear H
        go_wp2
        go_meet
        case rel => exact ⟨_, (true), (by first | rfl | (simp; done) | (simp [*]; done)), H', ⟨by first | omega | exact Nat.le_refl _⟩, ⟨by repeat (first | (with_reducible first | exact HB.out | apply below_alloc | apply pw_below_drewN | apply below_drew1) | exact HB.out)⟩⟩
    case rest =>
      clear HC6
      try clear c1
      try clear p2
      try clear c4
      try clear c8
      try clear c9
      try clear c9b0
      try clear c9b1
      try clear c10
      try clear c10b0
      try clear c10b1
      try clear c11
      try clear c11b0
      try clear c12
      try clear c12b0
      try clear c13
      try clear c13b0
      obtain ⟨kq, x45_5, rfl, HA, HJ5, HB⟩ := hcut
      cases kq with
      | zero => exact absurd HA.out (by simp [sprlaw15_DateYears.j0])
      | succ kj5 =>
        have H := HA.out
        clear HA
        simp only [sprlaw15_DateYears.j0] at H
        by_cases c14 : x45_5 = true
        · subst c14
          have H1 : ((sprlaw15_first.f kj5).bind fun t376 => (some t376)) = some r := by rw [if_pos rfl] at H; exact H
          clear H
          have H := H1
          clear H1
          replace H := Option.bind_eq_some_iff.mp H
          obtain ⟨t376, A150, H⟩ := H
          replace H : (some t376) = some r := H
          have A15 := Aside0.mk A150
          clear A150
          obtain rfl := Option.some.inj H
          go_wp2_with (first | ((with_reducible refine gate_callee (f := 9) rfl ?_); refine goesL_ (some 46) rfl rfl Tryd.func9 (by kernel_rfl) rfl #[] rfl (by (try simp only [List.map_toArray, List.map_cons, List.map_nil]); first | done | rfl | (simp only [List.length_drop, List.length_take]; rfl)) ?_; (with_reducible refine (sprlaw15_first.calls kj5  t376 _ A15.out).mono ?_); rintro e w16 ⟨rfl, hb⟩; refine ⟨_, rfl, ?_⟩; have n0_ := Aside0.mk (below_step (by repeat (first | (with_reducible first | exact HB.out | apply below_alloc | apply pw_below_drewN | apply below_drew1) | exact HB.out)) hb); clear HB; have HB := n0_; clear n0_; (try clear hb); (try clear hb2); (try clear hk); (try clear hi)))
          go_ret
          exact ⟨by first | rfl | (simp [errW_none, errW_some] <;> rfl) | (simp [*, errW_none, errW_some] <;> rfl), by repeat (first | (with_reducible first | exact HB.out | apply below_alloc | apply pw_below_drewN | apply below_drew1) | exact HB.out)⟩
        · replace c14 := Bool.eq_false_iff.mpr c14
          subst c14
          have H1 : (sprlaw15_DateYears.l0 kj5 a0 a1 t374 0 12) = some r := by rw [if_neg (show ¬ (false = true) by decide)] at H; exact H
          clear H
          have H := H1
          clear H1
          have H' := Aside0.mk H
          clear H
          go_wp2
          go_loopg [7, 8] kj5 (fun kq v7 v8 w' => ∃ (x7_2 : Int) (x8_2 : Int), v7 = .int .i64 x7_2 ∧ v8 = .int .i64 x8_2 ∧ Aside0 (sprlaw15_DateYears.l0 kq a0 a1 t374 x7_2 x8_2 = some r) ∧ Aside0 (kq ≤ kj5) ∧ Aside0 (Below w.heap.size w w'))
          case atStart => exact ⟨(0), (12), (by first | rfl | (simp; done) | (simp [*]; done)), (by first | rfl | (simp; done) | (simp [*]; done)), H', ⟨Nat.le_refl _⟩, ⟨by repeat (first | (with_reducible first | exact HB.out | apply below_alloc | apply pw_below_drewN | apply below_drew1) | exact HB.out)⟩⟩
          case round =>
            clear H'
            try clear c1
            try clear p2
            try clear c4
            try clear c8
            try clear c9
            try clear c9b0
            try clear c9b1
            try clear c10
            try clear c10b0
            try clear c10b1
            try clear c11
            try clear c11b0
            try clear c12
            try clear c12b0
            try clear c13
            try clear c13b0
            try clear c14
            try clear p2
            obtain ⟨x7_2, x8_2, rfl, rfl, HA, HK2, HB⟩ := hrel
            cases gk with
            | zero => exact absurd HA.out (by simp [sprlaw15_DateYears.l0])
            | succ k2 =>
              have H := HA.out
              clear HA
              simp only [sprlaw15_DateYears.l0] at H
              by_cases c17 : x8_2 < 16
              · rw [if_pos c17] at H
                have c17b0 : decide (x8_2 < 16) = true := decide_eq_true c17
                clear c17
                by_cases c18 : 0 ≤ x8_2
                · rw [if_pos c18] at H
                  have c18b0 : decide (0 ≤ x8_2) = true := decide_eq_true c18
                  clear c18
                  by_cases c19 : x8_2 < (t374.size : Int)
                  · rw [if_pos c19] at H
                    have c19b0 : decide (x8_2 < (t374.size : Int)) = true := decide_eq_true c19
                    clear c19
                    have H' := Aside0.mk H
                    clear H
                    have p20 : 0 ≤ (x8_2 : Int) := of_decide_eq_true (by first | (with_reducible assumption) | assumption)
                    have q20 : x8_2 < (t374.size : Int) := of_decide_eq_true (by first | (with_reducible assumption) | assumption)
                    have hx20 := bt_at t374 x8_2
                    replace p20 := eq_true p20
                    replace q20 := eq_true q20
                    go_wp2
                    go_roundg k2
                    case measure => have := HJ5.out; have := HK2.out; omega
                    case rel => exact ⟨(wrap64 ((wrap64 (10 * x7_2)) + (((bt t374 x8_2) - 48) % 256))), (wrap64 (x8_2 + 1)), (by first | rfl | (simp; done) | (simp [*]; done)), (by first | rfl | (simp; done) | (simp [*]; done)), H', ⟨by have := HJ5.out; have := HK2.out; omega⟩, ⟨by repeat (first | (with_reducible first | exact HB.out | apply below_alloc | apply pw_below_drewN | apply below_drew1) | exact HB.out)⟩⟩
                  · rw [if_neg c19] at H
                    exact absurd H (by simp)
                · rw [if_neg c18] at H
                  exact absurd H (by simp)
              · rw [if_neg c17] at H
                have c17b0 : decide (x8_2 < 16) = false := decide_eq_false c17
                clear c17
                obtain ⟨y377, hy377⟩ : ∃ y_ : List Int, y_ = (([(wrap64 (48 + (wrap64 (Int.tdiv a0 10)))) % 256, (wrap64 (48 + (Int.tmod a0 10))) % 256] : List Int)) := ⟨_, rfl⟩
                replace H : (if 15 + (strOfNums y377).size ≤ 9223372036854775807 then (if ((⟨#[83, 117, 110, 100, 97, 121, 44, 32, 49, 53, 45, 74, 117, 110, 45]⟩ : ByteArray) ++ (strOfNums y377)).size + 13 ≤ 9223372036854775807 then ((date_Parse.f k2 (((⟨#[83, 117, 110, 100, 97, 121, 44, 32, 49, 53, 45, 74, 117, 110, 45]⟩ : ByteArray) ++ (strOfNums y377)) ++ (⟨#[32, 49, 50, 58, 48, 48, 58, 48, 48, 32, 71, 77, 84]⟩ : ByteArray)) a1).bind fun bt380 => ((date_Print.f k2 bt380.1).bind fun bt382 => (if bt380.2 = 0 then (if bt382.2 = 0 then (sprlaw15_DateYears.j2 k2 a0 x7_2 bt382.1 (decide ((bt382.1.size : Int) < 16))) else (sprlaw15_DateYears.j2 k2 a0 x7_2 bt382.1 true)) else (sprlaw15_DateYears.j2 k2 a0 x7_2 bt382.1 true)))) else (none)) else (none)) = some r := by first | (rw [hy377]; with_reducible exact H) | (have H2_ := (Option.bind_some _ _).symm.trans H; rw [hy377]; with_reducible exact H2_) | (have H2_ := (Option.bind_some _ _).symm.trans H; with_reducible exact H2_) | with_reducible exact H | (rw [hy377]; exact H) | exact H
                have Ny377 := Aside0.mk hy377
                clear hy377
                by_cases c21 : 15 + (strOfNums y377).size ≤ 9223372036854775807
                · rw [if_pos c21] at H
                  have c21b0 := eq_true c21
                  have c21b1 : decide (15 + (strOfNums y377).size ≤ 9223372036854775807) = true := decide_eq_true c21
                  try have c21b2 : (9223372036854775807 < 15 + (strOfNums y377).size) = False := eq_false (Nat.not_lt.2 c21)
                  by_cases c22 : ((⟨#[83, 117, 110, 100, 97, 121, 44, 32, 49, 53, 45, 74, 117, 110, 45]⟩ : ByteArray) ++ (strOfNums y377)).size + 13 ≤ 9223372036854775807
                  · rw [if_pos c22] at H
                    have c22b0 := eq_true c22
                    have c22b1 : decide (((⟨#[83, 117, 110, 100, 97, 121, 44, 32, 49, 53, 45, 74, 117, 110, 45]⟩ : ByteArray) ++ (strOfNums y377)).size + 13 ≤ 9223372036854775807) = true := decide_eq_true c22
                    try have c22b2 : (9223372036854775807 < ((⟨#[83, 117, 110, 100, 97, 121, 44, 32, 49, 53, 45, 74, 117, 110, 45]⟩ : ByteArray) ++ (strOfNums y377)).size + 13) = False := eq_false (Nat.not_lt.2 c22)
                    (try (have c22y : (9223372036854775807 < 15 + (strOfNums y377).size + 13) = False := eq_false (by have zz := c22; simp only [ByteArray.size_append, ByteArray.size_extract, Nat.sub_zero] at zz; have e0 : (⟨#[83, 117, 110, 100, 97, 121, 44, 32, 49, 53, 45, 74, 117, 110, 45]⟩ : ByteArray).size = 15 := rfl; omega)))
                    (try (have c22s := c22; simp [go_sem] at c22s)); (try (have c22z := eq_false (Nat.not_lt.2 c22s)))
                    replace H := Option.bind_eq_some_iff.mp H
                    obtain ⟨⟨t380, t381⟩, A230, H⟩ := H
                    replace H : ((date_Print.f k2 t380).bind fun bt382 => (if t381 = 0 then (if bt382.2 = 0 then (sprlaw15_DateYears.j2 k2 a0 x7_2 bt382.1 (decide ((bt382.1.size : Int) < 16))) else (sprlaw15_DateYears.j2 k2 a0 x7_2 bt382.1 true)) else (sprlaw15_DateYears.j2 k2 a0 x7_2 bt382.1 true))) = some r := H
                    have A23 := Aside0.mk A230
                    clear A230
                    replace H := Option.bind_eq_some_iff.mp H
                    obtain ⟨⟨t382, t383⟩, A240, H⟩ := H
                    replace H : (if t381 = 0 then (if t383 = 0 then (sprlaw15_DateYears.j2 k2 a0 x7_2 t382 (decide ((t382.size : Int) < 16))) else (sprlaw15_DateYears.j2 k2 a0 x7_2 t382 true)) else (sprlaw15_DateYears.j2 k2 a0 x7_2 t382 true)) = some r := H
                    have A24 := Aside0.mk A240
                    clear A240
                    have HC25 := Aside0.mk H
                    clear H
                    go_upto_region 14 with (first | ((with_reducible refine gate_dst (N := 67) rfl ?_); (try (refine gate_guard (by rfl) ?_; dsimp only)); refine Kd.R_lit (Kd.int .u8) _ 5 ?hg (N := 67) ?hd (xs := ([(wrap64 (48 + (wrap64 (Int.tdiv a0 10)))) % 256, (wrap64 (48 + (Int.tmod a0 10))) % 256] : List Int)) (inner := [.int .u8 ((wrap64 (48 + (wrap64 (Int.tdiv a0 10)))) % 256), .int .u8 ((wrap64 (48 + (Int.tmod a0 10))) % 256)]) (ok := fun _ => True) (okp := fun _ => True) ?hr ?hp (fun _ hk => hk) trivial (Below.refl _ _) (Nat.le_refl _) (by simp) ?_; (case hd => rfl); (case hg => rfl); (case hr => first | (go_simp; done) | (go_simp; rfl)); (case hp => exact (Reps.one (show Kd.M (Kd.int .u8) _ _ _ ((wrap64 (48 + (wrap64 (Int.tdiv a0 10)))) % 256) [.int .u8 ((wrap64 (48 + (wrap64 (Int.tdiv a0 10)))) % 256)] from rfl) (Reps.one (show Kd.M (Kd.int .u8) _ _ _ ((wrap64 (48 + (Int.tmod a0 10))) % 256) [.int .u8 ((wrap64 (48 + (Int.tmod a0 10))) % 256)] from rfl) (Reps.none _ _)))); intro v378 w26 ho27 hb hg_ hnew_; clear hg_ hnew_; (first | rw [← Ny377.out] at ho27 | (simp only [Int.reduceToNat] at ho27; rw [← Ny377.out] at ho27)); have n0_ := Aside0.mk (Kd.R_lower ho27 (below_size (by repeat (first | (with_reducible first | exact HB.out | apply below_alloc | apply pw_below_drewN | apply below_drew1) | exact HB.out)))); have n1_ := Aside0.mk (below_step (by repeat (first | (with_reducible first | exact HB.out | apply below_alloc | apply pw_below_drewN | apply below_drew1) | exact HB.out)) hb); clear HB; have HO379 := n0_; have HB := n1_; clear n0_ n1_; clear hb ho27; have hcv28 := own_string (P := Tryd.prog) Tryd.underlying36 Tryd.underlying5 Tryd.underlying9 (Kd.own_of_R HO379.out)) | ((with_reducible refine gate_callee (f := 10) rfl ?_); refine goesL_ (some 74) rfl rfl Tryd.func10 (by kernel_rfl) rfl #[.string (((⟨#[83, 117, 110, 100, 97, 121, 44, 32, 49, 53, 45, 74, 117, 110, 45]⟩ : ByteArray) ++ (strOfNums y377)) ++ (⟨#[32, 49, 50, 58, 48, 48, 58, 48, 48, 32, 71, 77, 84]⟩ : ByteArray)), .int .i64 a1] rfl (by (try simp only [List.map_toArray, List.map_cons, List.map_nil]); first | done | rfl | (simp only [List.length_drop, List.length_take]; rfl)) ?_; (with_reducible refine (date_Parse.calls k2 (((⟨#[83, 117, 110, 100, 97, 121, 44, 32, 49, 53, 45, 74, 117, 110, 45]⟩ : ByteArray) ++ (strOfNums y377)) ++ (⟨#[32, 49, 50, 58, 48, 48, 58, 48, 48, 32, 71, 77, 84]⟩ : ByteArray)) a1 t380 t381 _ A23.out).mono ?_); rintro e w29 ⟨rfl, hb⟩; refine ⟨_, rfl, ?_⟩; have n0_ := Aside0.mk (Kd.R_below (by (with_reducible repeat (first | apply Kd.R_alloc | apply Kd.R_drewN | apply Kd.R_drew)); exact HO379.out) hb); have n1_ := Aside0.mk (below_step (by repeat (first | (with_reducible first | exact HB.out | apply below_alloc | apply pw_below_drewN | apply below_drew1) | exact HB.out)) hb); clear HO379; clear HB; have HO379 := n0_; have HB := n1_; clear n0_ n1_; (try clear hb); (try clear hb2); (try clear hk); (try clear hi)) | ((with_reducible refine gate_callee (f := 12) rfl ?_); refine goesL_ (some 79) rfl rfl Tryd.func12 (by kernel_rfl) rfl #[.int .i64 t380] rfl (by (try simp only [List.map_toArray, List.map_cons, List.map_nil]); first | done | rfl | (simp only [List.length_drop, List.length_take]; rfl)) ?_; (with_reducible refine (date_Print.calls k2 t380 t382 t383 _ A24.out (tab_below HT0.out (by repeat (first | (with_reducible first | exact HB.out | apply below_alloc | apply pw_below_drewN | apply below_drew1) | exact HB.out)))).mono ?_); rintro e w30 ⟨rfl, hb⟩; refine ⟨_, rfl, ?_⟩; have n0_ := Aside0.mk (Kd.R_below (by (with_reducible repeat (first | apply Kd.R_alloc | apply Kd.R_drewN | apply Kd.R_drew)); exact HO379.out) hb); have n1_ := Aside0.mk (below_step (by repeat (first | (with_reducible first | exact HB.out | apply below_alloc | apply pw_below_drewN | apply below_drew1) | exact HB.out)) hb); clear HO379; clear HB; have HO379 := n0_; have HB := n1_; clear n0_ n1_; (try clear hb); (try clear hb2); (try clear hk); (try clear hi)))
                    (try simp only [Act.put, List.setIfInBounds_toArray, List.set_cons_zero, List.set_cons_succ])
                    go_cut [92] (fun v92 wc => ∃ (kq : Nat) (x92_24 : Bool), v92 = .bool x92_24 ∧ Aside0 (sprlaw15_DateYears.j2 kq a0 x7_2 t382 x92_24 = some r) ∧ Aside0 (kq ≤ k2) ∧ Aside0 (Below w.heap.size w wc))
                    case first =>
                      have H := HC25.out
                      clear HC25
                      by_cases c31 : t381 = 0
                      · rw [if_pos c31] at H
                        have c31b0 : (t381 == 0) = true := beq_iff_eq.mpr c31
                        have c31b1 : (t381 != 0) = false := bne_eq_false_iff_eq.mpr c31
                        clear c31
                        (first | rw [c31b0] | (simp only [i64_w, i32_w]; rw [c31b0]) | skip)
                        by_cases c32 : t383 = 0
                        · rw [if_pos c32] at H
                          have c32b0 : (t383 == 0) = true := beq_iff_eq.mpr c32
                          have c32b1 : (t383 != 0) = false := bne_eq_false_iff_eq.mpr c32
                          clear c32
                          have H' := Aside0.mk H
                          clear H
                          go_wp2
                          go_meet
                          case rel => exact ⟨_, (decide ((t382.size : Int) < 16)), (by first | rfl | (simp; done) | (simp [*]; done)), H', ⟨by have := HJ5.out; have := HK2.out; first | omega | exact Nat.le_refl _⟩, ⟨by repeat (first | (with_reducible first | exact HB.out | apply below_alloc | apply pw_below_drewN | apply below_drew1) | exact HB.out)⟩⟩
                        · rw [if_neg c32] at H
                          have c32b0 : (t383 == 0) = false := beq_eq_false_iff_ne.mpr c32
                          have c32b1 : (t383 != 0) = true := bne_iff_ne.mpr c32
                          exact absurd H (by cases k2 with | zero => (simp [sprlaw15_DateYears.j2]) | succ kz => (intro hz; simp only [sprlaw15_DateYears.j2] at hz; exact absurd ((Option.some.inj hz).trans hT.out) (by decide)))
                      · rw [if_neg c31] at H
                        have c31b0 : (t381 == 0) = false := beq_eq_false_iff_ne.mpr c31
                        have c31b1 : (t381 != 0) = true := bne_iff_ne.mpr c31
                        (first | rw [c31b0] | (simp only [i64_w, i32_w]; rw [c31b0]) | skip)
                        exact absurd H (by cases k2 with | zero => (simp [sprlaw15_DateYears.j2]) | succ kz => (intro hz; simp only [sprlaw15_DateYears.j2] at hz; exact absurd ((Option.some.inj hz).trans hT.out) (by decide)))
                    case rest =>
                      clear HC25
                      try clear c1
                      try clear c2
                      try clear p2
                      try clear q2
                      try clear hx2
                      try clear hcv2
                      try clear c3
                      try clear c4
                      try clear p6
                      try clear c8
                      try clear c9
                      try clear c9b0
                      try clear c9b1
                      try clear c10
                      try clear c10b0
                      try clear c10b1
                      try clear c11
                      try clear c11b0
                      try clear c12
                      try clear c12b0
                      try clear c13
                      try clear c13b0
                      try clear c14
                      try clear c17
                      try clear c17b0
                      try clear c18
                      try clear c18b0
                      try clear c19
                      try clear c19b0
                      try clear p20
                      try clear q20
                      try clear hx20
                      try clear c21
                      try clear c21b0
                      try clear c21b1
                      try clear c21b2
                      try clear c22
                      try clear c22b0
                      try clear c22b1
                      try clear c22b2
                      try clear hcv28
                      try clear c31
                      try clear c31b0
                      try clear c31b1
                      try clear c32
                      try clear c32b0
                      try clear c32b1
                      try clear p2
                      try clear p20
                      try clear q20
                      obtain ⟨kq, x92_24, rfl, HA, HJ24, HB⟩ := hcut
                      cases kq with
                      | zero => exact absurd HA.out (by simp [sprlaw15_DateYears.j2])
                      | succ kj24 =>
                        have H := HA.out
                        clear HA
                        simp only [sprlaw15_DateYears.j2] at H
                        by_cases c33 : x92_24 = true
                        · subst c33
                          have H1 : (some false) = some r := by rw [if_pos rfl] at H; exact H
                          clear H
                          have H := H1
                          clear H1
                          exact absurd ((Option.some.inj H).trans hT.out) (by decide)
                        · replace c33 := Bool.eq_false_iff.mpr c33
                          subst c33
                          have H1 : (sprlaw15_DateYears.l1 kj24 a0 x7_2 t382 0 12) = some r := by rw [if_neg (show ¬ (false = true) by decide)] at H; exact H
                          clear H
                          have H := H1
                          clear H1
                          have H' := Aside0.mk H
                          clear H
                          go_wp2
                          go_loopg [14, 15] kj24 (fun kq v14 v15 w' => ∃ (x14_4 : Int) (x15_4 : Int), v14 = .int .i64 x14_4 ∧ v15 = .int .i64 x15_4 ∧ Aside0 (sprlaw15_DateYears.l1 kq a0 x7_2 t382 x14_4 x15_4 = some r) ∧ Aside0 (kq ≤ kj24) ∧ Aside0 (Below w.heap.size w w'))
                          case atStart => exact ⟨(0), (12), (by first | rfl | (simp; done) | (simp [*]; done)), (by first | rfl | (simp; done) | (simp [*]; done)), H', ⟨Nat.le_refl _⟩, ⟨by repeat (first | (with_reducible first | exact HB.out | apply below_alloc | apply pw_below_drewN | apply below_drew1) | exact HB.out)⟩⟩
                          case round =>
                            clear H'
                            try clear c1
                            try clear c2
                            try clear p2
                            try clear q2
                            try clear hx2
                            try clear hcv2
                            try clear c3
                            try clear c4
                            try clear p6
                            try clear c8
                            try clear c9
                            try clear c9b0
                            try clear c9b1
                            try clear c10
                            try clear c10b0
                            try clear c10b1
                            try clear c11
                            try clear c11b0
                            try clear c12
                            try clear c12b0
                            try clear c13
                            try clear c13b0
                            try clear c14
                            try clear c17
                            try clear c17b0
                            try clear c18
                            try clear c18b0
                            try clear c19
                            try clear c19b0
                            try clear p20
                            try clear q20
                            try clear hx20
                            try clear c21
                            try clear c21b0
                            try clear c21b1
                            try clear c21b2
                            try clear c22
                            try clear c22b0
                            try clear c22b1
                            try clear c22b2
                            try clear hcv28
                            try clear c31
                            try clear c31b0
                            try clear c31b1
                            try clear c32
                            try clear c32b0
                            try clear c32b1
                            try clear c33
                            try clear p2
                            try clear p20
                            try clear p6
                            try clear q2
                            try clear q20
                            obtain ⟨x14_4, x15_4, rfl, rfl, HA, HK4, HB⟩ := hrel
                            cases gk with
                            | zero => exact absurd HA.out (by simp [sprlaw15_DateYears.l1])
                            | succ k4 =>
                              have H := HA.out
                              clear HA
                              simp only [sprlaw15_DateYears.l1] at H
                              by_cases c34 : x15_4 < 16
                              · rw [if_pos c34] at H
                                have c34b0 : decide (x15_4 < 16) = true := decide_eq_true c34
                                clear c34
                                by_cases c35 : 0 ≤ x15_4
                                · rw [if_pos c35] at H
                                  have c35b0 : decide (0 ≤ x15_4) = true := decide_eq_true c35
                                  clear c35
                                  by_cases c36 : x15_4 < (t382.size : Int)
                                  · rw [if_pos c36] at H
                                    have c36b0 : decide (x15_4 < (t382.size : Int)) = true := decide_eq_true c36
                                    clear c36
                                    have H' := Aside0.mk H
                                    clear H
                                    have p37 : 0 ≤ (x15_4 : Int) := of_decide_eq_true (by first | (with_reducible assumption) | assumption)
                                    have q37 : x15_4 < (t382.size : Int) := of_decide_eq_true (by first | (with_reducible assumption) | assumption)
                                    have hx37 := bt_at t382 x15_4
                                    replace p37 := eq_true p37
                                    replace q37 := eq_true q37
                                    go_wp2
                                    go_roundg k4
                                    case measure => have := HJ5.out; have := HK2.out; have := HJ24.out; have := HK4.out; omega
                                    case rel => exact ⟨(wrap64 ((wrap64 (10 * x14_4)) + (((bt t382 x15_4) - 48) % 256))), (wrap64 (x15_4 + 1)), (by first | rfl | (simp; done) | (simp [*]; done)), (by first | rfl | (simp; done) | (simp [*]; done)), H', ⟨by have := HJ5.out; have := HK2.out; have := HJ24.out; have := HK4.out; omega⟩, ⟨by repeat (first | (with_reducible first | exact HB.out | apply below_alloc | apply pw_below_drewN | apply below_drew1) | exact HB.out)⟩⟩
                                  · rw [if_neg c36] at H
                                    exact absurd H (by simp)
                                · rw [if_neg c35] at H
                                  exact absurd H (by simp)
                              · rw [if_neg c34] at H
                                have c34b0 : decide (x15_4 < 16) = false := decide_eq_false c34
                                clear c34
                                replace H := Option.bind_eq_some_iff.mp H
                                obtain ⟨t384, A380, H⟩ := H
                                replace H : (if t384 = true then (if (Int.tmod x14_4 100) = a0 then (if x14_4 ≤ (wrap64 (x7_2 + 50)) then (some (decide (x14_4 > (wrap64 (x7_2 - 50))))) else (some false)) else (some false)) else (some false)) = some r := H
                                have A38 := Aside0.mk A380
                                clear A380
                                by_cases c39 : t384 = true
                                · subst c39
                                  have H1 : (if (Int.tmod x14_4 100) = a0 then (if x14_4 ≤ (wrap64 (x7_2 + 50)) then (some (decide (x14_4 > (wrap64 (x7_2 - 50))))) else (some false)) else (some false)) = some r := by rw [if_pos rfl] at H; exact H
                                  clear H
                                  have H := H1
                                  clear H1
                                  by_cases c40 : (Int.tmod x14_4 100) = a0
                                  · rw [if_pos c40] at H
                                    have c40b0 : ((Int.tmod x14_4 100) == a0) = true := beq_iff_eq.mpr c40
                                    have c40b1 : ((Int.tmod x14_4 100) != a0) = false := bne_eq_false_iff_eq.mpr c40
                                    clear c40
                                    by_cases c41 : x14_4 ≤ (wrap64 (x7_2 + 50))
                                    · rw [if_pos c41] at H
                                      have c41b0 : decide (x14_4 ≤ (wrap64 (x7_2 + 50))) = true := decide_eq_true c41
                                      clear c41
                                      obtain rfl := Option.some.inj H
                                      go_wp2_with (first | ((with_reducible refine gate_callee (f := 9) rfl ?_); refine goesL_ (some 105) rfl rfl Tryd.func9 (by kernel_rfl) rfl #[] rfl (by (try simp only [List.map_toArray, List.map_cons, List.map_nil]); first | done | rfl | (simp only [List.length_drop, List.length_take]; rfl)) ?_; (with_reducible refine (sprlaw15_first.calls k4  true _ A38.out).mono ?_); rintro e w42 ⟨rfl, hb⟩; refine ⟨_, rfl, ?_⟩; have n0_ := Aside0.mk (below_step (by repeat (first | (with_reducible first | exact HB.out | apply below_alloc | apply pw_below_drewN | apply below_drew1) | exact HB.out)) hb); clear HB; have HB := n0_; clear n0_; (try clear hb); (try clear hb2); (try clear hk); (try clear hi)))
                                      go_ret
                                      exact ⟨by first | rfl | (simp [errW_none, errW_some] <;> rfl) | (simp [*, errW_none, errW_some] <;> rfl), by repeat (first | (with_reducible first | exact HB.out | apply below_alloc | apply pw_below_drewN | apply below_drew1) | exact HB.out)⟩
                                    · rw [if_neg c41] at H
                                      have c41b0 : decide (x14_4 ≤ (wrap64 (x7_2 + 50))) = false := decide_eq_false c41
                                      clear c41
                                      exact absurd ((Option.some.inj H).trans hT.out) (by decide)
                                  · rw [if_neg c40] at H
                                    have c40b0 : ((Int.tmod x14_4 100) == a0) = false := beq_eq_false_iff_ne.mpr c40
                                    have c40b1 : ((Int.tmod x14_4 100) != a0) = true := bne_iff_ne.mpr c40
                                    exact absurd ((Option.some.inj H).trans hT.out) (by decide)
                                · replace c39 := Bool.eq_false_iff.mpr c39
                                  subst c39
                                  have H1 : (some false) = some r := by rw [if_neg (show ¬ (false = true) by decide)] at H; exact H
                                  clear H
                                  have H := H1
                                  clear H1
                                  exact absurd ((Option.some.inj H).trans hT.out) (by decide)
                  · rw [if_neg c22] at H
                    exact absurd H (by simp)
                · rw [if_neg c21] at H
                  exact absurd H (by simp)
  · replace c4 := Bool.eq_false_iff.mpr c4
    subst c4
    have H1 : (some false) = some r := by rw [if_neg (show ¬ (false = true) by decide)] at H; exact H
    clear H
    have H := H1
    clear H1
    exact absurd ((Option.some.inj H).trans hT.out) (by decide)

/-- THE ONE PURE STATEMENT of sprlaw15_DateYears: yours. -/
def sprlaw15_DateYears.Pure : Prop := ∀ (a0 : Int) (a1 : Int), (Lit.int .i64 a0).wf = true → (Lit.int .i64 a1).wf = true → ∃ k, sprlaw15_DateYears.f k a0 a1 = some true
theorem sprlaw15_DateYears.walk (P : sprlaw15_DateYears.Pure) (a0 : Int) (a1 : Int) (w : World) (hT0 : Lib.TabIs Tryd.prog w "internal/strconv.uint64pow10" .u64 Lib.pow10Tab) (w0 : (Lit.int .i64 a0).wf = true) (w1 : (Lit.int .i64 a1).wf = true) :
    Calls Tryd.prog 8 #[.int .i64 a0, .int .i64 a1] w fun e w' => e = .returned (.bool true) ∧ Below w.heap.size w w' := by
  obtain ⟨k, h⟩ := P a0 a1 w0 w1
  refine (sprlaw15_DateYears.calls k a0 a1 true w h (Aside0.mk rfl) hT0).mono ?_
  rintro e w' ⟨rfl, hd⟩
  exact ⟨rfl, hd⟩

end Go.Proofs.YtnkmhgfhdgledaaDoor.R
