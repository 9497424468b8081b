-- Written by a program of this session's (wip/xprint.py), out of the seat's translation.
import Derived.Test.YtnkmhgfhdgledaaDoorR0
import Derived.Test.YtnkmhgfhdgledaaDoorR1
import Derived.Test.YtnkmhgfhdgledaaDoorR6
import Derived.Test.YtnkmhgfhdgledaaDoorR7
import Derived.Test.YtnkmhgfhdgledaaDoorR8
import Derived.Test.YtnkmhgfhdgledaaDoorR9
namespace Go.Proofs.YtnkmhgfhdgledaaDoor.R
open Go.RowKit Go.Proofs.YtnkmhgfhdgledaaDoorW.PrintWords Go.Proofs.YtnkmhgfhdgledaaDoorW.PrintLast Go.Proofs.YtnkmhgfhdgledaaDoorW.PrintMore
attribute [local go_sem] max2_int min2_int max_two min_two max_three min_three max_four min_four   -- for this text's walks alone
set_option linter.unusedVariables false
set_option linter.unusedSimpArgs false

/-! ### sprref14_Make: function 15 -/
mutual
def sprref14_Make.j0 : Nat → Int → Int → Int → Int → Int → Int → Bool → Option (Int × Bool)
  | 0, _, _, _, _, _, _, _ => none
  | k + 1, x0, x1, x2, x3, x4, x5, x64 => if x64 = true then (some (0, false)) else ((sprref14_first.f x0).bind fun t318 => (sprref14_Make.l0 k x0 x1 x3 x4 x5 (wrap64 ((wrap64 (t318 + x2)) - 1)) 1))
def sprref14_Make.l0 : Nat → Int → Int → Int → Int → Int → Int → Int → Option (Int × Bool)
  | 0, _, _, _, _, _, _, _ => none
  | k + 1, x0, x1, x3, x4, x5, x14, x15 => if x15 < x1 then ((sprref14_length.f k x0 x15).bind fun t319 => (sprref14_Make.l0 k x0 x1 x3 x4 x5 (wrap64 (x14 + t319)) (wrap64 (x15 + 1)))) else (some (wrap64 ((wrap64 ((wrap64 ((wrap64 (x14 * 86400)) + (wrap64 (x3 * 3600)))) + (wrap64 (x4 * 60)))) + (mn x5 59)), true))
end
def sprref14_Make.f (k : Nat) (a0 : Int) (a1 : Int) (a2 : Int) (a3 : Int) (a4 : Int) (a5 : Int) : Option (Int × Bool) := if a0 < 1601 then (sprref14_Make.j0 k a0 a1 a2 a3 a4 a5 true) else (if a0 > 9999 then (sprref14_Make.j0 k a0 a1 a2 a3 a4 a5 true) else (if a1 < 1 then (sprref14_Make.j0 k a0 a1 a2 a3 a4 a5 true) else (if a1 > 12 then (sprref14_Make.j0 k a0 a1 a2 a3 a4 a5 true) else (if a2 < 1 then (sprref14_Make.j0 k a0 a1 a2 a3 a4 a5 true) else ((sprref14_length.f k a0 a1).bind fun t317 => (if a2 > t317 then (sprref14_Make.j0 k a0 a1 a2 a3 a4 a5 true) else (if a3 < 0 then (sprref14_Make.j0 k a0 a1 a2 a3 a4 a5 true) else (if a3 > 23 then (sprref14_Make.j0 k a0 a1 a2 a3 a4 a5 true) else (if a4 < 0 then (sprref14_Make.j0 k a0 a1 a2 a3 a4 a5 true) else (if a4 > 59 then (sprref14_Make.j0 k a0 a1 a2 a3 a4 a5 true) else (if a5 < 0 then (sprref14_Make.j0 k a0 a1 a2 a3 a4 a5 true) else (sprref14_Make.j0 k a0 a1 a2 a3 a4 a5 (decide (a5 > 60))))))))))))))
theorem sprref14_Make.mono_l : ∀ k, (∀ y0 y1 y2 y3 y4 y5 y6, LeO (sprref14_Make.j0 k y0 y1 y2 y3 y4 y5 y6) (sprref14_Make.j0 (k + 1) y0 y1 y2 y3 y4 y5 y6)) ∧ (∀ y0 y1 y2 y3 y4 y5 y6, LeO (sprref14_Make.l0 k y0 y1 y2 y3 y4 y5 y6) (sprref14_Make.l0 (k + 1) y0 y1 y2 y3 y4 y5 y6))
  | 0 => ⟨fun _ _ _ _ _ _ _ r h => by simp [sprref14_Make.j0] at h, fun _ _ _ _ _ _ _ r h => by simp [sprref14_Make.l0] at h⟩
  | k + 1 => by
    obtain ⟨ih0, ih1⟩ := sprref14_Make.mono_l k
    refine ⟨?_, ?_⟩
    · intro y0 y1 y2 y3 y4 y5 y6
      unfold sprref14_Make.j0
      repeat' first
      | (with_reducible exact ih0 _ _ _ _ _ _ _)
      | (with_reducible exact ih1 _ _ _ _ _ _ _)
      | (with_reducible exact sprref14_length.mono _ _ _)
      | (with_reducible exact LeO.refl _)
      | (with_reducible exact LeO.none _)
      | (with_reducible refine LeO.ite ?_ ?_)
      | (with_reducible refine LeO.bind ?_ (fun _ => ?_))
      | exact ih0 _ _ _ _ _ _ _
      | exact ih1 _ _ _ _ _ _ _
      | exact sprref14_length.mono _ _ _
      | exact LeO.none _
      | refine LeO.ite ?_ ?_
      | refine LeO.bind ?_ (fun _ => ?_)
    · intro y0 y1 y2 y3 y4 y5 y6
      unfold sprref14_Make.l0
      repeat' first
      | (with_reducible exact ih0 _ _ _ _ _ _ _)
      | (with_reducible exact ih1 _ _ _ _ _ _ _)
      | (with_reducible exact sprref14_length.mono _ _ _)
      | (with_reducible exact LeO.refl _)
      | (with_reducible exact LeO.none _)
      | (with_reducible refine LeO.ite ?_ ?_)
      | (with_reducible refine LeO.bind ?_ (fun _ => ?_))
      | exact ih0 _ _ _ _ _ _ _
      | exact ih1 _ _ _ _ _ _ _
      | exact sprref14_length.mono _ _ _
      | exact LeO.none _
      | refine LeO.ite ?_ ?_
      | refine LeO.bind ?_ (fun _ => ?_)
theorem sprref14_Make.mono : ∀ a0 a1 a2 a3 a4 a5 k, LeO (sprref14_Make.f k a0 a1 a2 a3 a4 a5) (sprref14_Make.f (k + 1) a0 a1 a2 a3 a4 a5) := by
  intro a0 a1 a2 a3 a4 a5 k
  obtain ⟨ih0, ih1⟩ := sprref14_Make.mono_l k
  unfold sprref14_Make.f
  repeat' first
      | (with_reducible exact ih0 _ _ _ _ _ _ _)
      | (with_reducible exact ih1 _ _ _ _ _ _ _)
      | (with_reducible exact sprref14_length.mono _ _ _)
      | (with_reducible exact LeO.refl _)
      | (with_reducible exact LeO.none _)
      | (with_reducible refine LeO.ite ?_ ?_)
      | (with_reducible refine LeO.bind ?_ (fun _ => ?_))
      | exact ih0 _ _ _ _ _ _ _
      | exact ih1 _ _ _ _ _ _ _
      | exact sprref14_length.mono _ _ _
      | exact LeO.none _
      | refine LeO.ite ?_ ?_
      | refine LeO.bind ?_ (fun _ => ?_)
set_option maxHeartbeats 2000000 in
set_option maxRecDepth 100000 in
theorem sprref14_Make.calls (k : Nat) (a0 : Int) (a1 : Int) (a2 : Int) (a3 : Int) (a4 : Int) (a5 : Int) (r1 : Int) (r2 : Bool) (w : World) (h : sprref14_Make.f k a0 a1 a2 a3 a4 a5 = some (r1, r2)) :
    Calls Tryd.prog 15 #[.int .i64 a0, .int .i64 a1, .int .i64 a2, .int .i64 a3, .int .i64 a4, .int .i64 a5] w fun e w' => e = .returned (.tuple #[.int .i64 r1, .bool r2]) ∧ Below w.heap.size w w' := by
  have HB := Aside0.mk (Below.refl w.heap.size w)
  have H : (if a0 < 1601 then (sprref14_Make.j0 k a0 a1 a2 a3 a4 a5 true) else (if a0 > 9999 then (sprref14_Make.j0 k a0 a1 a2 a3 a4 a5 true) else (if a1 < 1 then (sprref14_Make.j0 k a0 a1 a2 a3 a4 a5 true) else (if a1 > 12 then (sprref14_Make.j0 k a0 a1 a2 a3 a4 a5 true) else (if a2 < 1 then (sprref14_Make.j0 k a0 a1 a2 a3 a4 a5 true) else ((sprref14_length.f k a0 a1).bind fun t317 => (if a2 > t317 then (sprref14_Make.j0 k a0 a1 a2 a3 a4 a5 true) else (if a3 < 0 then (sprref14_Make.j0 k a0 a1 a2 a3 a4 a5 true) else (if a3 > 23 then (sprref14_Make.j0 k a0 a1 a2 a3 a4 a5 true) else (if a4 < 0 then (sprref14_Make.j0 k a0 a1 a2 a3 a4 a5 true) else (if a4 > 59 then (sprref14_Make.j0 k a0 a1 a2 a3 a4 a5 true) else (if a5 < 0 then (sprref14_Make.j0 k a0 a1 a2 a3 a4 a5 true) else (sprref14_Make.j0 k a0 a1 a2 a3 a4 a5 (decide (a5 > 60))))))))))))))) = some (r1, r2) := h
  clear h
  have HC7 := Aside0.mk H
  clear H
  go_enter Tryd.func15, Tryd.ntmps15
  go_upto_region 1 with (fail)
  go_cut [64] (fun v64 wc => ∃ (kq : Nat) (x64_6 : Bool), v64 = .bool x64_6 ∧ Aside0 (sprref14_Make.j0 kq a0 a1 a2 a3 a4 a5 x64_6 = some (r1, r2)) ∧ Aside0 (kq ≤ k) ∧ Aside0 (Below w.heap.size w wc))
  case first =>
    have H := HC7.out
    clear HC7
    by_cases c8 : a0 < 1601
    · rw [if_pos c8] at H
      have c8b0 : decide (a0 < 1601) = true := decide_eq_true c8
      clear c8
      (first | rw [c8b0] | (simp only [i64_w, i32_w]; rw [c8b0]) | skip)
      have H' := Aside0.mk H
      clear H
      go_wp2
      go_meet
      case rel => exact ⟨_, (true), (by first | rfl | (simp; done) | (simp [*]; done)), H', ⟨by first | omega | exact Nat.le_refl _⟩, ⟨by repeat (first | (with_reducible first | exact HB.out | apply below_alloc | apply pw_below_drewN | apply below_drew1) | exact HB.out)⟩⟩
    · rw [if_neg c8] at H
      have c8b0 : decide (a0 < 1601) = false := decide_eq_false c8
      clear c8
      (first | rw [c8b0] | (simp only [i64_w, i32_w]; rw [c8b0]) | skip)
      by_cases c9 : a0 > 9999
      · rw [if_pos c9] at H
        have c9b0 : decide (9999 < a0) = true := decide_eq_true c9
        clear c9
        have H' := Aside0.mk H
        clear H
        go_wp2
        go_meet
        case rel => exact ⟨_, (true), (by first | rfl | (simp; done) | (simp [*]; done)), H', ⟨by first | omega | exact Nat.le_refl _⟩, ⟨by repeat (first | (with_reducible first | exact HB.out | apply below_alloc | apply pw_below_drewN | apply below_drew1) | exact HB.out)⟩⟩
      · rw [if_neg c9] at H
        have c9b0 : decide (9999 < a0) = false := decide_eq_false c9
        clear c9
        by_cases c10 : a1 < 1
        · rw [if_pos c10] at H
          have c10b0 : decide (a1 < 1) = true := decide_eq_true c10
          clear c10
          have H' := Aside0.mk H
          clear H
          go_wp2
          go_meet
          case rel => exact ⟨_, (true), (by first | rfl | (simp; done) | (simp [*]; done)), H', ⟨by first | omega | exact Nat.le_refl _⟩, ⟨by repeat (first | (with_reducible first | exact HB.out | apply below_alloc | apply pw_below_drewN | apply below_drew1) | exact HB.out)⟩⟩
        · rw [if_neg c10] at H
          have c10b0 : decide (a1 < 1) = false := decide_eq_false c10
          clear c10
          by_cases c11 : a1 > 12
          · rw [if_pos c11] at H
            have c11b0 : decide (12 < a1) = true := decide_eq_true c11
            clear c11
            have H' := Aside0.mk H
            clear H
            go_wp2
            go_meet
            case rel => exact ⟨_, (true), (by first | rfl | (simp; done) | (simp [*]; done)), H', ⟨by first | omega | exact Nat.le_refl _⟩, ⟨by repeat (first | (with_reducible first | exact HB.out | apply below_alloc | apply pw_below_drewN | apply below_drew1) | exact HB.out)⟩⟩
          · rw [if_neg c11] at H
            have c11b0 : decide (12 < a1) = false := decide_eq_false c11
            clear c11
            by_cases c12 : a2 < 1
            · rw [if_pos c12] at H
              have c12b0 : decide (a2 < 1) = true := decide_eq_true c12
              clear c12
              have H' := Aside0.mk H
              clear H
              go_wp2
              go_meet
              case rel => exact ⟨_, (true), (by first | rfl | (simp; done) | (simp [*]; done)), H', ⟨by first | omega | exact Nat.le_refl _⟩, ⟨by repeat (first | (with_reducible first | exact HB.out | apply below_alloc | apply pw_below_drewN | apply below_drew1) | exact HB.out)⟩⟩
            · rw [if_neg c12] at H
              have c12b0 : decide (a2 < 1) = false := decide_eq_false c12
              clear c12
              replace H := Option.bind_eq_some_iff.mp H
              obtain ⟨t317, A130, H⟩ := H
              replace H : (if a2 > t317 then (sprref14_Make.j0 k a0 a1 a2 a3 a4 a5 true) else (if a3 < 0 then (sprref14_Make.j0 k a0 a1 a2 a3 a4 a5 true) else (if a3 > 23 then (sprref14_Make.j0 k a0 a1 a2 a3 a4 a5 true) else (if a4 < 0 then (sprref14_Make.j0 k a0 a1 a2 a3 a4 a5 true) else (if a4 > 59 then (sprref14_Make.j0 k a0 a1 a2 a3 a4 a5 true) else (if a5 < 0 then (sprref14_Make.j0 k a0 a1 a2 a3 a4 a5 true) else (sprref14_Make.j0 k a0 a1 a2 a3 a4 a5 (decide (a5 > 60))))))))) = some (r1, r2) := H
              have A13 := Aside0.mk A130
              clear A130
              by_cases c14 : a2 > t317
              · rw [if_pos c14] at H
                have c14b0 : decide (t317 < a2) = true := decide_eq_true c14
                clear c14
                have H' := Aside0.mk H
                clear H
                go_wp2_with (first | (go_at_call 40; (with_reducible refine (sprref14_length.calls k a0 a1 t317 _ A13.out).mono ?_); rintro e w' ⟨rfl, ⟨nd, rfl⟩⟩))
                go_meet
                case rel => exact ⟨_, (true), (by first | rfl | (simp; done) | (simp [*]; done)), H', ⟨by first | omega | exact Nat.le_refl _⟩, ⟨by repeat (first | (with_reducible first | exact HB.out | apply below_alloc | apply pw_below_drewN | apply below_drew1) | exact HB.out)⟩⟩
              · rw [if_neg c14] at H
                have c14b0 : decide (t317 < a2) = false := decide_eq_false c14
                clear c14
                by_cases c15 : a3 < 0
                · rw [if_pos c15] at H
                  have c15b0 : decide (a3 < 0) = true := decide_eq_true c15
                  clear c15
                  have H' := Aside0.mk H
                  clear H
                  go_wp2_with (first | (go_at_call 40; (with_reducible refine (sprref14_length.calls k a0 a1 t317 _ A13.out).mono ?_); rintro e w' ⟨rfl, ⟨nd, rfl⟩⟩))
                  go_meet
                  case rel => exact ⟨_, (true), (by first | rfl | (simp; done) | (simp [*]; done)), H', ⟨by first | omega | exact Nat.le_refl _⟩, ⟨by repeat (first | (with_reducible first | exact HB.out | apply below_alloc | apply pw_below_drewN | apply below_drew1) | exact HB.out)⟩⟩
                · rw [if_neg c15] at H
                  have c15b0 : decide (a3 < 0) = false := decide_eq_false c15
                  clear c15
                  by_cases c16 : a3 > 23
                  · rw [if_pos c16] at H
                    have c16b0 : decide (23 < a3) = true := decide_eq_true c16
                    clear c16
                    have H' := Aside0.mk H
                    clear H
                    go_wp2_with (first | (go_at_call 40; (with_reducible refine (sprref14_length.calls k a0 a1 t317 _ A13.out).mono ?_); rintro e w' ⟨rfl, ⟨nd, rfl⟩⟩))
                    go_meet
                    case rel => exact ⟨_, (true), (by first | rfl | (simp; done) | (simp [*]; done)), H', ⟨by first | omega | exact Nat.le_refl _⟩, ⟨by repeat (first | (with_reducible first | exact HB.out | apply below_alloc | apply pw_below_drewN | apply below_drew1) | exact HB.out)⟩⟩
                  · rw [if_neg c16] at H
                    have c16b0 : decide (23 < a3) = false := decide_eq_false c16
                    clear c16
                    by_cases c17 : a4 < 0
                    · rw [if_pos c17] at H
                      have c17b0 : decide (a4 < 0) = true := decide_eq_true c17
                      clear c17
                      have H' := Aside0.mk H
                      clear H
                      go_wp2_with (first | (go_at_call 40; (with_reducible refine (sprref14_length.calls k a0 a1 t317 _ A13.out).mono ?_); rintro e w' ⟨rfl, ⟨nd, rfl⟩⟩))
                      go_meet
                      case rel => exact ⟨_, (true), (by first | rfl | (simp; done) | (simp [*]; done)), H', ⟨by first | omega | exact Nat.le_refl _⟩, ⟨by repeat (first | (with_reducible first | exact HB.out | apply below_alloc | apply pw_below_drewN | apply below_drew1) | exact HB.out)⟩⟩
                    · rw [if_neg c17] at H
                      have c17b0 : decide (a4 < 0) = false := decide_eq_false c17
                      clear c17
                      by_cases c18 : a4 > 59
                      · rw [if_pos c18] at H
                        have c18b0 : decide (59 < a4) = true := decide_eq_true c18
                        clear c18
                        have H' := Aside0.mk H
                        clear H
                        go_wp2_with (first | (go_at_call 40; (with_reducible refine (sprref14_length.calls k a0 a1 t317 _ A13.out).mono ?_); rintro e w' ⟨rfl, ⟨nd, rfl⟩⟩))
                        go_meet
                        case rel => exact ⟨_, (true), (by first | rfl | (simp; done) | (simp [*]; done)), H', ⟨by first | omega | exact Nat.le_refl _⟩, ⟨by repeat (first | (with_reducible first | exact HB.out | apply below_alloc | apply pw_below_drewN | apply below_drew1) | exact HB.out)⟩⟩
                      · rw [if_neg c18] at H
                        have c18b0 : decide (59 < a4) = false := decide_eq_false c18
                        clear c18
                        by_cases c19 : a5 < 0
                        · rw [if_pos c19] at H
                          have c19b0 : decide (a5 < 0) = true := decide_eq_true c19
                          clear c19
                          have H' := Aside0.mk H
                          clear H
                          go_wp2_with (first | (go_at_call 40; (with_reducible refine (sprref14_length.calls k a0 a1 t317 _ A13.out).mono ?_); rintro e w' ⟨rfl, ⟨nd, rfl⟩⟩))
                          go_meet
                          case rel => exact ⟨_, (true), (by first | rfl | (simp; done) | (simp [*]; done)), H', ⟨by first | omega | exact Nat.le_refl _⟩, ⟨by repeat (first | (with_reducible first | exact HB.out | apply below_alloc | apply pw_below_drewN | apply below_drew1) | exact HB.out)⟩⟩
                        · rw [if_neg c19] at H
                          have c19b0 : decide (a5 < 0) = false := decide_eq_false c19
                          clear c19
                          have H' := Aside0.mk H
                          clear H
                          go_wp2_with (first | (go_at_call 40; (with_reducible refine (sprref14_length.calls k a0 a1 t317 _ A13.out).mono ?_); rintro e w' ⟨rfl, ⟨nd, rfl⟩⟩))
                          go_meet
                          case rel => exact ⟨_, (decide (a5 > 60)), (by first | rfl | (simp; done) | (simp [*]; done)), H', ⟨by first | omega | exact Nat.le_refl _⟩, ⟨by repeat (first | (with_reducible first | exact HB.out | apply below_alloc | apply pw_below_drewN | apply below_drew1) | exact HB.out)⟩⟩
  case rest =>
    clear HC7
    try clear c1
    try clear p2
    try clear c8
    try clear c8b0
    try clear c9
    try clear c9b0
    try clear c10
    try clear c10b0
    try clear c11
    try clear c11b0
    try clear c12
    try clear c12b0
    try clear c14
    try clear c14b0
    try clear c15
    try clear c15b0
    try clear c16
    try clear c16b0
    try clear c17
    try clear c17b0
    try clear c18
    try clear c18b0
    try clear c19
    try clear c19b0
    obtain ⟨kq, x64_6, rfl, HA, HJ6, HB⟩ := hcut
    cases kq with
    | zero => exact absurd HA.out (by simp [sprref14_Make.j0])
    | succ kj6 =>
      have H := HA.out
      clear HA
      simp only [sprref14_Make.j0] at H
      by_cases c20 : x64_6 = true
      · subst c20
        have H1 : (some (0, false)) = some (r1, r2) := by rw [if_pos rfl] at H; exact H
        clear H
        have H := H1
        clear H1
        simp only [Option.some.injEq, Prod.mk.injEq] at H
        obtain ⟨rfl, rfl⟩ := H
        go_wp2
        go_ret2
        exact ⟨by first | rfl | (simp [errW_none, errW_some] <;> rfl) | (simp [*, errW_none, errW_some] <;> rfl), by repeat (first | (with_reducible first | exact HB.out | apply below_alloc | apply pw_below_drewN | apply below_drew1) | exact HB.out)⟩
      · replace c20 := Bool.eq_false_iff.mpr c20
        subst c20
        have H1 : ((sprref14_first.f a0).bind fun t318 => (sprref14_Make.l0 kj6 a0 a1 a3 a4 a5 (wrap64 ((wrap64 (t318 + a2)) - 1)) 1)) = some (r1, r2) := by rw [if_neg (show ¬ (false = true) by decide)] at H; exact H
        clear H
        have H := H1
        clear H1
        replace H := Option.bind_eq_some_iff.mp H
        obtain ⟨t318, A210, H⟩ := H
        replace H : (sprref14_Make.l0 kj6 a0 a1 a3 a4 a5 (wrap64 ((wrap64 (t318 + a2)) - 1)) 1) = some (r1, r2) := H
        have A21 := Aside0.mk A210
        clear A210
        have H' := Aside0.mk H
        clear H
        go_wp2_with (first | ((with_reducible refine gate_callee (f := 41) rfl ?_); refine goesL_ (some 66) rfl rfl Tryd.func41 (by kernel_rfl) rfl #[.int .i64 a0] rfl (by (try simp only [List.map_toArray, List.map_cons, List.map_nil]); first | done | rfl | (simp only [List.length_drop, List.length_take]; rfl)) ?_; (with_reducible refine (sprref14_first.calls a0 t318 _ A21.out).mono ?_); rintro e w' ⟨rfl, ⟨nd, rfl⟩⟩; refine ⟨_, rfl, ?_⟩))
        go_loopg [14, 15] kj6 (fun kq v14 v15 w' => ∃ (x14_2 : Int) (x15_2 : Int), v14 = .int .i64 x14_2 ∧ v15 = .int .i64 x15_2 ∧ Aside0 (sprref14_Make.l0 kq a0 a1 a3 a4 a5 x14_2 x15_2 = some (r1, r2)) ∧ Aside0 (kq ≤ kj6) ∧ Aside0 (Below w.heap.size w w'))
        case atStart => exact ⟨(wrap64 ((wrap64 (t318 + a2)) - 1)), (1), (by first | rfl | (simp; done) | (simp [*]; done)), (by first | rfl | (simp; done) | (simp [*]; done)), H', ⟨Nat.le_refl _⟩, ⟨by repeat (first | (with_reducible first | exact HB.out | apply below_alloc | apply pw_below_drewN | apply below_drew1) | exact HB.out)⟩⟩
        case round =>
          clear H'
          try clear c1
          try clear c2
          try clear p2
          try clear c4
          try clear p6
          try clear c8
          try clear c8b0
          try clear c9
          try clear c9b0
          try clear c10
          try clear c10b0
          try clear c11
          try clear c11b0
          try clear c12
          try clear c12b0
          try clear c14
          try clear c14b0
          try clear c15
          try clear c15b0
          try clear c16
          try clear c16b0
          try clear c17
          try clear c17b0
          try clear c18
          try clear c18b0
          try clear c19
          try clear c19b0
          try clear c20
          try clear p2
          obtain ⟨x14_2, x15_2, rfl, rfl, HA, HK2, HB⟩ := hrel
          cases gk with
          | zero => exact absurd HA.out (by simp [sprref14_Make.l0])
          | succ k2 =>
            have H := HA.out
            clear HA
            simp only [sprref14_Make.l0] at H
            by_cases c22 : x15_2 < a1
            · rw [if_pos c22] at H
              have c22b0 : decide (x15_2 < a1) = true := decide_eq_true c22
              clear c22
              replace H := Option.bind_eq_some_iff.mp H
              obtain ⟨t319, A230, H⟩ := H
              replace H : (sprref14_Make.l0 k2 a0 a1 a3 a4 a5 (wrap64 (x14_2 + t319)) (wrap64 (x15_2 + 1))) = some (r1, r2) := H
              have A23 := Aside0.mk A230
              clear A230
              have H' := Aside0.mk H
              clear H
              go_wp2_with (first | ((with_reducible refine gate_callee (f := 40) rfl ?_); refine goesL_ (some 78) rfl rfl Tryd.func40 (by kernel_rfl) rfl #[.int .i64 a0, .int .i64 x15_2] rfl (by (try simp only [List.map_toArray, List.map_cons, List.map_nil]); first | done | rfl | (simp only [List.length_drop, List.length_take]; rfl)) ?_; (with_reducible refine (sprref14_length.calls k2 a0 x15_2 t319 _ A23.out).mono ?_); rintro e w' ⟨rfl, ⟨nd, rfl⟩⟩; refine ⟨_, rfl, ?_⟩))
              go_roundg k2
              case measure => have := HJ6.out; have := HK2.out; omega
              case rel => exact ⟨(wrap64 (x14_2 + t319)), (wrap64 (x15_2 + 1)), (by first | rfl | (simp; done) | (simp [*]; done)), (by first | rfl | (simp; done) | (simp [*]; done)), H', ⟨by have := HJ6.out; have := HK2.out; omega⟩, ⟨by repeat (first | (with_reducible first | exact HB.out | apply below_alloc | apply pw_below_drewN | apply below_drew1) | exact HB.out)⟩⟩
            · rw [if_neg c22] at H
              have c22b0 : decide (x15_2 < a1) = false := decide_eq_false c22
              clear c22
              obtain ⟨ji24, hji24⟩ : ∃ j_ : Int, (mn a5 59) = j_ := ⟨_, rfl⟩
              replace H : (some (wrap64 ((wrap64 ((wrap64 ((wrap64 (x14_2 * 86400)) + (wrap64 (a3 * 3600)))) + (wrap64 (a4 * 60)))) + (ji24)), true)) = some (r1, r2) := by first | (rw [hji24] at H; exact H) | (simp only [hji24] at H ⊢; exact H)
              have hji24_ : (if 59 < a5 then 59 else a5) = ji24 := hji24
              simp only [Option.some.injEq, Prod.mk.injEq] at H
              obtain ⟨rfl, rfl⟩ := H
              go_wp2
              go_ret2
              exact ⟨by first | rfl | (simp [errW_none, errW_some] <;> rfl) | (simp only [← hji24]; first | rfl | (simp [errW_none, errW_some] <;> rfl)) | (simp [*, errW_none, errW_some] <;> rfl), by repeat (first | (with_reducible first | exact HB.out | apply below_alloc | apply pw_below_drewN | apply below_drew1) | exact HB.out)⟩

/-! ### sprlaw15_DatePrints: function 4 -/
def sprlaw15_DatePrints.f (k : Nat) (a0 : Int) (a1 : Int) (a2 : Int) (a3 : Int) (a4 : Int) (a5 : Int) (a6 : Int) : Option (Bool) := (sprlaw15_first.f k).bind fun t320 => (if t320 = true then ((date_Print.f k a0).bind fun bt321 => ((sprref14_Print.f k a0).bind fun bt323 => ((date_Make.f k a1 a2 a3 a4 a5 a6).bind fun bt325 => ((sprref14_Make.f k a1 a2 a3 a4 a5 a6).bind fun bt327 => ((sprlaw15_first.f k).bind fun t329 => (if t329 = true then (if bt321.1.toList = bt323.1.toList then (if bt321.2 = bt323.2 then (if bt325.1 = bt327.1 then (some (bt325.2 == bt327.2)) else (some false)) else (some false)) else (some false)) else (some false))))))) else (some false))
theorem sprlaw15_DatePrints.mono : ∀ a0 a1 a2 a3 a4 a5 a6 k, LeO (sprlaw15_DatePrints.f k a0 a1 a2 a3 a4 a5 a6) (sprlaw15_DatePrints.f (k + 1) a0 a1 a2 a3 a4 a5 a6) := by
  intro a0 a1 a2 a3 a4 a5 a6 k
  unfold sprlaw15_DatePrints.f
  repeat' first
      | (with_reducible exact date_Make.mono _ _ _ _ _ _ _)
      | (with_reducible exact date_Print.mono _ _)
      | (with_reducible exact sprlaw15_first.mono _)
      | (with_reducible exact sprref14_Make.mono _ _ _ _ _ _ _)
      | (with_reducible exact sprref14_Print.mono _ _)
      | (with_reducible exact LeO.refl _)
      | (with_reducible exact LeO.none _)
      | (with_reducible refine LeO.ite ?_ ?_)
      | (with_reducible refine LeO.bind ?_ (fun _ => ?_))
      | exact date_Make.mono _ _ _ _ _ _ _
      | exact date_Print.mono _ _
      | exact sprlaw15_first.mono _
      | exact sprref14_Make.mono _ _ _ _ _ _ _
      | exact sprref14_Print.mono _ _
      | exact LeO.none _
      | refine LeO.ite ?_ ?_
      | refine LeO.bind ?_ (fun _ => ?_)
set_option maxHeartbeats 2000000 in
set_option maxRecDepth 100000 in
theorem sprlaw15_DatePrints.calls (k : Nat) (a0 : Int) (a1 : Int) (a2 : Int) (a3 : Int) (a4 : Int) (a5 : Int) (a6 : Int) (r : Bool) (w : World) (h : sprlaw15_DatePrints.f k a0 a1 a2 a3 a4 a5 a6 = some r) (hT : Aside0 (r = true)) (hT0 : Lib.TabIs Tryd.prog w "internal/strconv.uint64pow10" .u64 Lib.pow10Tab) :
    Calls Tryd.prog 4 #[.int .i64 a0, .int .i64 a1, .int .i64 a2, .int .i64 a3, .int .i64 a4, .int .i64 a5, .int .i64 a6] w fun e w' => e = .returned (.bool r) ∧ Below w.heap.size w w' := by
  have HT0 := Aside0.mk hT0
  clear hT0
  have HB := Aside0.mk (Below.refl w.heap.size w)
  have H : ((sprlaw15_first.f k).bind fun t320 => (if t320 = true then ((date_Print.f k a0).bind fun bt321 => ((sprref14_Print.f k a0).bind fun bt323 => ((date_Make.f k a1 a2 a3 a4 a5 a6).bind fun bt325 => ((sprref14_Make.f k a1 a2 a3 a4 a5 a6).bind fun bt327 => ((sprlaw15_first.f k).bind fun t329 => (if t329 = true then (if bt321.1.toList = bt323.1.toList then (if bt321.2 = bt323.2 then (if bt325.1 = bt327.1 then (some (bt325.2 == bt327.2)) else (some false)) else (some false)) else (some false)) else (some false))))))) else (some false))) = some r := h
  clear h
  replace H := Option.bind_eq_some_iff.mp H
  obtain ⟨t320, A80, H⟩ := H
  replace H : (if t320 = true then ((date_Print.f k a0).bind fun bt321 => ((sprref14_Print.f k a0).bind fun bt323 => ((date_Make.f k a1 a2 a3 a4 a5 a6).bind fun bt325 => ((sprref14_Make.f k a1 a2 a3 a4 a5 a6).bind fun bt327 => ((sprlaw15_first.f k).bind fun t329 => (if t329 = true then (if bt321.1.toList = bt323.1.toList then (if bt321.2 = bt323.2 then (if bt325.1 = bt327.1 then (some (bt325.2 == bt327.2)) else (some false)) else (some false)) else (some false)) else (some false))))))) else (some false)) = some r := H
  have A8 := Aside0.mk A80
  clear A80
  by_cases c9 : t320 = true
  · subst c9
    have H1 : ((date_Print.f k a0).bind fun bt321 => ((sprref14_Print.f k a0).bind fun bt323 => ((date_Make.f k a1 a2 a3 a4 a5 a6).bind fun bt325 => ((sprref14_Make.f k a1 a2 a3 a4 a5 a6).bind fun bt327 => ((sprlaw15_first.f k).bind fun t329 => (if t329 = true then (if bt321.1.toList = bt323.1.toList then (if bt321.2 = bt323.2 then (if bt325.1 = bt327.1 then (some (bt325.2 == bt327.2)) else (some false)) else (some false)) else (some false)) else (some false))))))) = some r := by rw [if_pos rfl] at H; exact H
    clear H
    have H := H1
    clear H1
    replace H := Option.bind_eq_some_iff.mp H
    obtain ⟨⟨t321, t322⟩, A100, H⟩ := H
    replace H : ((sprref14_Print.f k a0).bind fun bt323 => ((date_Make.f k a1 a2 a3 a4 a5 a6).bind fun bt325 => ((sprref14_Make.f k a1 a2 a3 a4 a5 a6).bind fun bt327 => ((sprlaw15_first.f k).bind fun t329 => (if t329 = true then (if t321.toList = bt323.1.toList then (if t322 = bt323.2 then (if bt325.1 = bt327.1 then (some (bt325.2 == bt327.2)) else (some false)) else (some false)) else (some false)) else (some false)))))) = some r := H
    have A10 := Aside0.mk A100
    clear A100
    replace H := Option.bind_eq_some_iff.mp H
    obtain ⟨⟨t323, t324⟩, A110, H⟩ := H
    replace H : ((date_Make.f k a1 a2 a3 a4 a5 a6).bind fun bt325 => ((sprref14_Make.f k a1 a2 a3 a4 a5 a6).bind fun bt327 => ((sprlaw15_first.f k).bind fun t329 => (if t329 = true then (if t321.toList = t323.toList then (if t322 = t324 then (if bt325.1 = bt327.1 then (some (bt325.2 == bt327.2)) else (some false)) else (some false)) else (some false)) else (some false))))) = some r := H
    have A11 := Aside0.mk A110
    clear A110
    replace H := Option.bind_eq_some_iff.mp H
    obtain ⟨⟨t325, t326⟩, A120, H⟩ := H
    replace H : ((sprref14_Make.f k a1 a2 a3 a4 a5 a6).bind fun bt327 => ((sprlaw15_first.f k).bind fun t329 => (if t329 = true then (if t321.toList = t323.toList then (if t322 = t324 then (if t325 = bt327.1 then (some (t326 == bt327.2)) else (some false)) else (some false)) else (some false)) else (some false)))) = some r := H
    have A12 := Aside0.mk A120
    clear A120
    replace H := Option.bind_eq_some_iff.mp H
    obtain ⟨⟨t327, t328⟩, A130, H⟩ := H
    replace H : ((sprlaw15_first.f k).bind fun t329 => (if t329 = true then (if t321.toList = t323.toList then (if t322 = t324 then (if t325 = t327 then (some (t326 == t328)) else (some false)) else (some false)) else (some false)) else (some false))) = some r := H
    have A13 := Aside0.mk A130
    clear A130
    replace H := Option.bind_eq_some_iff.mp H
    obtain ⟨t329, A140, H⟩ := H
    replace H : (if t329 = true then (if t321.toList = t323.toList then (if t322 = t324 then (if t325 = t327 then (some (t326 == t328)) else (some false)) else (some false)) else (some false)) else (some false)) = some r := H
    have A14 := Aside0.mk A140
    clear A140
    by_cases c15 : t329 = true
    · subst c15
      have H1 : (if t321.toList = t323.toList then (if t322 = t324 then (if t325 = t327 then (some (t326 == t328)) else (some false)) else (some false)) else (some false)) = some r := by rw [if_pos rfl] at H; exact H
      clear H
      have H := H1
      clear H1
      by_cases c16 : t321.toList = t323.toList
      · rw [if_pos c16] at H
        have c16b0 : (t321.toList == t323.toList) = true := beq_iff_eq.mpr c16
        have c16b1 : (t321.toList != t323.toList) = false := bne_eq_false_iff_eq.mpr c16
        clear c16
        by_cases c17 : t322 = t324
        · rw [if_pos c17] at H
          have c17b0 : (t322 == t324) = true := beq_iff_eq.mpr c17
          have c17b1 : (t322 != t324) = false := bne_eq_false_iff_eq.mpr c17
          clear c17
          by_cases c18 : t325 = t327
          · rw [if_pos c18] at H
            have c18b0 : (t325 == t327) = true := beq_iff_eq.mpr c18
            have c18b1 : (t325 != t327) = false := bne_eq_false_iff_eq.mpr c18
            clear c18
            obtain rfl := Option.some.inj H
            go_enter Tryd.func4, Tryd.ntmps4
            go_wp2_with (first | ((with_reducible refine gate_callee (f := 9) rfl ?_); refine goesL_ (some 23) rfl rfl Tryd.func9 (by kernel_rfl) rfl #[] rfl (by (try simp only [List.map_toArray, List.map_cons, List.map_nil]); first | done | rfl | (simp only [List.length_drop, List.length_take]; rfl)) ?_; (with_reducible refine (sprlaw15_first.calls k  true _ A8.out).mono ?_); rintro e w19 ⟨rfl, hb⟩; refine ⟨_, rfl, ?_⟩; have n0_ := Aside0.mk (below_step (by repeat (first | (with_reducible first | exact HB.out | apply below_alloc | apply pw_below_drewN | apply below_drew1) | exact HB.out)) hb); clear HB; have HB := n0_; clear n0_; (try clear hb); (try clear hb2); (try clear hk); (try clear hi)) | ((with_reducible refine gate_callee (f := 12) rfl ?_); refine goesL_ (some 27) rfl rfl Tryd.func12 (by kernel_rfl) rfl #[.int .i64 a0] rfl (by (try simp only [List.map_toArray, List.map_cons, List.map_nil]); first | done | rfl | (simp only [List.length_drop, List.length_take]; rfl)) ?_; (with_reducible refine (date_Print.calls k a0 t321 t322 _ A10.out (tab_below HT0.out (by repeat (first | (with_reducible first | exact HB.out | apply below_alloc | apply pw_below_drewN | apply below_drew1) | exact HB.out)))).mono ?_); rintro e w20 ⟨rfl, hb⟩; refine ⟨_, rfl, ?_⟩; have n0_ := Aside0.mk (below_step (by repeat (first | (with_reducible first | exact HB.out | apply below_alloc | apply pw_below_drewN | apply below_drew1) | exact HB.out)) hb); clear HB; have HB := n0_; clear n0_; (try clear hb); (try clear hb2); (try clear hk); (try clear hi)) | ((with_reducible refine gate_callee (f := 13) rfl ?_); refine goesL_ (some 32) rfl rfl Tryd.func13 (by kernel_rfl) rfl #[.int .i64 a0] rfl (by (try simp only [List.map_toArray, List.map_cons, List.map_nil]); first | done | rfl | (simp only [List.length_drop, List.length_take]; rfl)) ?_; (with_reducible refine (sprref14_Print.calls k a0 t323 t324 _ A11.out).mono ?_); rintro e w21 ⟨rfl, hb⟩; refine ⟨_, rfl, ?_⟩; have n0_ := Aside0.mk (below_step (by repeat (first | (with_reducible first | exact HB.out | apply below_alloc | apply pw_below_drewN | apply below_drew1) | exact HB.out)) hb); clear HB; have HB := n0_; clear n0_; (try clear hb); (try clear hb2); (try clear hk); (try clear hi)) | ((with_reducible refine gate_callee (f := 14) rfl ?_); refine goesL_ (some 42) rfl rfl Tryd.func14 (by kernel_rfl) rfl #[.int .i64 a1, .int .i64 a2, .int .i64 a3, .int .i64 a4, .int .i64 a5, .int .i64 a6] rfl (by (try simp only [List.map_toArray, List.map_cons, List.map_nil]); first | done | rfl | (simp only [List.length_drop, List.length_take]; rfl)) ?_; (with_reducible refine (date_Make.calls k a1 a2 a3 a4 a5 a6 t325 t326 _ A12.out).mono ?_); rintro e w22 ⟨rfl, hb⟩; refine ⟨_, rfl, ?_⟩; have n0_ := Aside0.mk (below_step (by repeat (first | (with_reducible first | exact HB.out | apply below_alloc | apply pw_below_drewN | apply below_drew1) | exact HB.out)) hb); clear HB; have HB := n0_; clear n0_; (try clear hb); (try clear hb2); (try clear hk); (try clear hi)) | ((with_reducible refine gate_callee (f := 15) rfl ?_); refine goesL_ (some 52) rfl rfl Tryd.func15 (by kernel_rfl) rfl #[.int .i64 a1, .int .i64 a2, .int .i64 a3, .int .i64 a4, .int .i64 a5, .int .i64 a6] rfl (by (try simp only [List.map_toArray, List.map_cons, List.map_nil]); first | done | rfl | (simp only [List.length_drop, List.length_take]; rfl)) ?_; (with_reducible refine (sprref14_Make.calls k a1 a2 a3 a4 a5 a6 t327 t328 _ A13.out).mono ?_); rintro e w23 ⟨rfl, hb⟩; refine ⟨_, rfl, ?_⟩; have n0_ := Aside0.mk (below_step (by repeat (first | (with_reducible first | exact HB.out | apply below_alloc | apply pw_below_drewN | apply below_drew1) | exact HB.out)) hb); clear HB; have HB := n0_; clear n0_; (try clear hb); (try clear hb2); (try clear hk); (try clear hi)) | ((with_reducible refine gate_callee (f := 9) rfl ?_); refine goesL_ (some 55) rfl rfl Tryd.func9 (by kernel_rfl) rfl #[] rfl (by (try simp only [List.map_toArray, List.map_cons, List.map_nil]); first | done | rfl | (simp only [List.length_drop, List.length_take]; rfl)) ?_; (with_reducible refine (sprlaw15_first.calls k  true _ A14.out).mono ?_); rintro e w24 ⟨rfl, hb⟩; refine ⟨_, rfl, ?_⟩; have n0_ := Aside0.mk (below_step (by repeat (first | (with_reducible first | exact HB.out | apply below_alloc | apply pw_below_drewN | apply below_drew1) | exact HB.out)) hb); clear HB; have HB := n0_; clear n0_; (try clear hb); (try clear hb2); (try clear hk); (try clear hi)))
            go_ret
            exact ⟨by first | rfl | (simp [errW_none, errW_some] <;> rfl) | (simp [*, errW_none, errW_some] <;> rfl), by repeat (first | (with_reducible first | exact HB.out | apply below_alloc | apply pw_below_drewN | apply below_drew1) | exact HB.out)⟩
          · rw [if_neg c18] at H
            have c18b0 : (t325 == t327) = false := beq_eq_false_iff_ne.mpr c18
            have c18b1 : (t325 != t327) = true := bne_iff_ne.mpr c18
            exact absurd ((Option.some.inj H).trans hT.out) (by decide)
        · rw [if_neg c17] at H
          have c17b0 : (t322 == t324) = false := beq_eq_false_iff_ne.mpr c17
          have c17b1 : (t322 != t324) = true := bne_iff_ne.mpr c17
          exact absurd ((Option.some.inj H).trans hT.out) (by decide)
      · rw [if_neg c16] at H
        have c16b0 : (t321.toList == t323.toList) = false := beq_eq_false_iff_ne.mpr c16
        have c16b1 : (t321.toList != t323.toList) = true := bne_iff_ne.mpr c16
        exact absurd ((Option.some.inj H).trans hT.out) (by decide)
    · replace c15 := Bool.eq_false_iff.mpr c15
      subst c15
      have H1 : (some false) = some r := by rw [if_neg (show ¬ (false = true) by decide)] at H; exact H
      clear H
      have H := H1
      clear H1
      exact absurd ((Option.some.inj H).trans hT.out) (by decide)
  · replace c9 := Bool.eq_false_iff.mpr c9
    subst c9
    have H1 : (some false) = some r := by rw [if_neg (show ¬ (false = true) by decide)] at H; exact H
    clear H
    have H := H1
    clear H1
    exact absurd ((Option.some.inj H).trans hT.out) (by decide)

/-- THE ONE PURE STATEMENT of sprlaw15_DatePrints: yours. -/
def sprlaw15_DatePrints.Pure : Prop := ∀ (a0 : Int) (a1 : Int) (a2 : Int) (a3 : Int) (a4 : Int) (a5 : Int) (a6 : Int), (Lit.int .i64 a0).wf = true → (Lit.int .i64 a1).wf = true → (Lit.int .i64 a2).wf = true → (Lit.int .i64 a3).wf = true → (Lit.int .i64 a4).wf = true → (Lit.int .i64 a5).wf = true → (Lit.int .i64 a6).wf = true → ∃ k, sprlaw15_DatePrints.f k a0 a1 a2 a3 a4 a5 a6 = some true
theorem sprlaw15_DatePrints.walk (P : sprlaw15_DatePrints.Pure) (a0 : Int) (a1 : Int) (a2 : Int) (a3 : Int) (a4 : Int) (a5 : Int) (a6 : Int) (w : World) (hT0 : Lib.TabIs Tryd.prog w "internal/strconv.uint64pow10" .u64 Lib.pow10Tab) (w0 : (Lit.int .i64 a0).wf = true) (w1 : (Lit.int .i64 a1).wf = true) (w2 : (Lit.int .i64 a2).wf = true) (w3 : (Lit.int .i64 a3).wf = true) (w4 : (Lit.int .i64 a4).wf = true) (w5 : (Lit.int .i64 a5).wf = true) (w6 : (Lit.int .i64 a6).wf = true) :
    Calls Tryd.prog 4 #[.int .i64 a0, .int .i64 a1, .int .i64 a2, .int .i64 a3, .int .i64 a4, .int .i64 a5, .int .i64 a6] w fun e w' => e = .returned (.bool true) ∧ Below w.heap.size w w' := by
  obtain ⟨k, h⟩ := P a0 a1 a2 a3 a4 a5 a6 w0 w1 w2 w3 w4 w5 w6
  refine (sprlaw15_DatePrints.calls k a0 a1 a2 a3 a4 a5 a6 true w h (Aside0.mk rfl) hT0).mono ?_
  rintro e w' ⟨rfl, hd⟩
  exact ⟨rfl, hd⟩

/-! ### sprlaw15_DateBack: function 5 -/
def sprlaw15_DateBack.f (k : Nat) (a0 : Int) (a1 : Int) : Option (Bool) := (sprlaw15_first.f k).bind fun t330 => (if t330 = true then ((date_Print.f k a0).bind fun bt331 => (if bt331.2 = 0 then ((date_Parse.f k bt331.1 a1).bind fun bt333 => (if bt331.1.size + 1 ≤ 9223372036854775807 then ((date_Parse.f k (bt331.1 ++ (⟨#[32]⟩ : ByteArray)) a1).bind fun bt335 => ((sprlaw15_first.f k).bind fun t337 => (if t337 = true then (if bt333.2 = 0 then (if bt333.1 = a0 then (if bt335.2 = 4 then (some ((bt331.1.size : Int) == 29)) else (some false)) else (some false)) else (some false)) else (some false)))) else (none))) else ((sprlaw15_first.f k).bind fun t338 => (if t338 = true then (some (bt331.1.toList == ([] : List UInt8))) else (some false))))) else (some false))
theorem sprlaw15_DateBack.mono : ∀ a0 a1 k, LeO (sprlaw15_DateBack.f k a0 a1) (sprlaw15_DateBack.f (k + 1) a0 a1) := by
  intro a0 a1 k
  unfold sprlaw15_DateBack.f
  repeat' first
      | (with_reducible exact date_Parse.mono _ _ _)
      | (with_reducible exact date_Print.mono _ _)
      | (with_reducible exact sprlaw15_first.mono _)
      | (with_reducible exact LeO.refl _)
      | (with_reducible exact LeO.none _)
      | (with_reducible refine LeO.ite ?_ ?_)
      | (with_reducible refine LeO.bind ?_ (fun _ => ?_))
      | exact date_Parse.mono _ _ _
      | exact date_Print.mono _ _
      | exact sprlaw15_first.mono _
      | exact LeO.none _
      | refine LeO.ite ?_ ?_
      | refine LeO.bind ?_ (fun _ => ?_)
set_option maxHeartbeats 2000000 in
set_option maxRecDepth 100000 in
theorem sprlaw15_DateBack.calls (k : Nat) (a0 : Int) (a1 : Int) (r : Bool) (w : World) (h : sprlaw15_DateBack.f k a0 a1 = some r) (hT : Aside0 (r = true)) (hT0 : Lib.TabIs Tryd.prog w "internal/strconv.uint64pow10" .u64 Lib.pow10Tab) :
    Calls Tryd.prog 5 #[.int .i64 a0, .int .i64 a1] w fun e w' => e = .returned (.bool r) ∧ Below w.heap.size w w' := by
  have HT0 := Aside0.mk hT0
  clear hT0
  have HB := Aside0.mk (Below.refl w.heap.size w)
  have H : ((sprlaw15_first.f k).bind fun t330 => (if t330 = true then ((date_Print.f k a0).bind fun bt331 => (if bt331.2 = 0 then ((date_Parse.f k bt331.1 a1).bind fun bt333 => (if bt331.1.size + 1 ≤ 9223372036854775807 then ((date_Parse.f k (bt331.1 ++ (⟨#[32]⟩ : ByteArray)) a1).bind fun bt335 => ((sprlaw15_first.f k).bind fun t337 => (if t337 = true then (if bt333.2 = 0 then (if bt333.1 = a0 then (if bt335.2 = 4 then (some ((bt331.1.size : Int) == 29)) else (some false)) else (some false)) else (some false)) else (some false)))) else (none))) else ((sprlaw15_first.f k).bind fun t338 => (if t338 = true then (some (bt331.1.toList == ([] : List UInt8))) else (some false))))) else (some false))) = some r := h
  clear h
  replace H := Option.bind_eq_some_iff.mp H
  obtain ⟨t330, A30, H⟩ := H
  replace H : (if t330 = true then ((date_Print.f k a0).bind fun bt331 => (if bt331.2 = 0 then ((date_Parse.f k bt331.1 a1).bind fun bt333 => (if bt331.1.size + 1 ≤ 9223372036854775807 then ((date_Parse.f k (bt331.1 ++ (⟨#[32]⟩ : ByteArray)) a1).bind fun bt335 => ((sprlaw15_first.f k).bind fun t337 => (if t337 = true then (if bt333.2 = 0 then (if bt333.1 = a0 then (if bt335.2 = 4 then (some ((bt331.1.size : Int) == 29)) else (some false)) else (some false)) else (some false)) else (some false)))) else (none))) else ((sprlaw15_first.f k).bind fun t338 => (if t338 = true then (some (bt331.1.toList == ([] : List UInt8))) else (some false))))) else (some false)) = some r := H
  have A3 := Aside0.mk A30
  clear A30
  by_cases c4 : t330 = true
  · subst c4
    have H1 : ((date_Print.f k a0).bind fun bt331 => (if bt331.2 = 0 then ((date_Parse.f k bt331.1 a1).bind fun bt333 => (if bt331.1.size + 1 ≤ 9223372036854775807 then ((date_Parse.f k (bt331.1 ++ (⟨#[32]⟩ : ByteArray)) a1).bind fun bt335 => ((sprlaw15_first.f k).bind fun t337 => (if t337 = true then (if bt333.2 = 0 then (if bt333.1 = a0 then (if bt335.2 = 4 then (some ((bt331.1.size : Int) == 29)) else (some false)) else (some false)) else (some false)) else (some false)))) else (none))) else ((sprlaw15_first.f k).bind fun t338 => (if t338 = true then (some (bt331.1.toList == ([] : List UInt8))) else (some false))))) = some r := by rw [if_pos rfl] at H; exact H
    clear H
    have H := H1
    clear H1
    replace H := Option.bind_eq_some_iff.mp H
    obtain ⟨⟨t331, t332⟩, A50, H⟩ := H
    replace H : (if t332 = 0 then ((date_Parse.f k t331 a1).bind fun bt333 => (if t331.size + 1 ≤ 9223372036854775807 then ((date_Parse.f k (t331 ++ (⟨#[32]⟩ : ByteArray)) a1).bind fun bt335 => ((sprlaw15_first.f k).bind fun t337 => (if t337 = true then (if bt333.2 = 0 then (if bt333.1 = a0 then (if bt335.2 = 4 then (some ((t331.size : Int) == 29)) else (some false)) else (some false)) else (some false)) else (some false)))) else (none))) else ((sprlaw15_first.f k).bind fun t338 => (if t338 = true then (some (t331.toList == ([] : List UInt8))) else (some false)))) = some r := H
    have A5 := Aside0.mk A50
    clear A50
    by_cases c6 : t332 = 0
    · rw [if_pos c6] at H
      have c6b0 : (t332 == 0) = true := beq_iff_eq.mpr c6
      have c6b1 : (t332 != 0) = false := bne_eq_false_iff_eq.mpr c6
      clear c6
      replace H := Option.bind_eq_some_iff.mp H
      obtain ⟨⟨t333, t334⟩, A70, H⟩ := H
      replace H : (if t331.size + 1 ≤ 9223372036854775807 then ((date_Parse.f k (t331 ++ (⟨#[32]⟩ : ByteArray)) a1).bind fun bt335 => ((sprlaw15_first.f k).bind fun t337 => (if t337 = true then (if t334 = 0 then (if t333 = a0 then (if bt335.2 = 4 then (some ((t331.size : Int) == 29)) else (some false)) else (some false)) else (some false)) else (some false)))) else (none)) = some r := H
      have A7 := Aside0.mk A70
      clear A70
      by_cases c8 : t331.size + 1 ≤ 9223372036854775807
      · rw [if_pos c8] at H
        have c8b0 := eq_true c8
        have c8b1 : decide (t331.size + 1 ≤ 9223372036854775807) = true := decide_eq_true c8
        try have c8b2 : (9223372036854775807 < t331.size + 1) = False := eq_false (Nat.not_lt.2 c8)
        replace H := Option.bind_eq_some_iff.mp H
        obtain ⟨⟨t335, t336⟩, A90, H⟩ := H
        replace H : ((sprlaw15_first.f k).bind fun t337 => (if t337 = true then (if t334 = 0 then (if t333 = a0 then (if t336 = 4 then (some ((t331.size : Int) == 29)) else (some false)) else (some false)) else (some false)) else (some false))) = some r := H
        have A9 := Aside0.mk A90
        clear A90
        replace H := Option.bind_eq_some_iff.mp H
        obtain ⟨t337, A100, H⟩ := H
        replace H : (if t337 = true then (if t334 = 0 then (if t333 = a0 then (if t336 = 4 then (some ((t331.size : Int) == 29)) else (some false)) else (some false)) else (some false)) else (some false)) = some r := H
        have A10 := Aside0.mk A100
        clear A100
        by_cases c11 : t337 = true
        · subst c11
          have H1 : (if t334 = 0 then (if t333 = a0 then (if t336 = 4 then (some ((t331.size : Int) == 29)) else (some false)) else (some false)) else (some false)) = some r := by rw [if_pos rfl] at H; exact H
          clear H
          have H := H1
          clear H1
          by_cases c12 : t334 = 0
          · rw [if_pos c12] at H
            have c12b0 : (t334 == 0) = true := beq_iff_eq.mpr c12
            have c12b1 : (t334 != 0) = false := bne_eq_false_iff_eq.mpr c12
            clear c12
            by_cases c13 : t333 = a0
            · rw [if_pos c13] at H
              have c13b0 : (t333 == a0) = true := beq_iff_eq.mpr c13
              have c13b1 : (t333 != a0) = false := bne_eq_false_iff_eq.mpr c13
              clear c13
              by_cases c14 : t336 = 4
              · rw [if_pos c14] at H
                have c14b0 : (t336 == 4) = true := beq_iff_eq.mpr c14
                have c14b1 : (t336 != 4) = false := bne_eq_false_iff_eq.mpr c14
                clear c14
                obtain rfl := Option.some.inj H
                go_enter Tryd.func5, Tryd.ntmps5
                go_wp2_with (first | ((with_reducible refine gate_callee (f := 9) rfl ?_); refine goesL_ (some 11) rfl rfl Tryd.func9 (by kernel_rfl) rfl #[] rfl (by (try simp only [List.map_toArray, List.map_cons, List.map_nil]); first | done | rfl | (simp only [List.length_drop, List.length_take]; rfl)) ?_; (with_reducible refine (sprlaw15_first.calls k  true _ A3.out).mono ?_); rintro e w15 ⟨rfl, hb⟩; refine ⟨_, rfl, ?_⟩; have n0_ := Aside0.mk (below_step (by repeat (first | (with_reducible first | exact HB.out | apply below_alloc | apply pw_below_drewN | apply below_drew1) | exact HB.out)) hb); clear HB; have HB := n0_; clear n0_; (try clear hb); (try clear hb2); (try clear hk); (try clear hi)) | ((with_reducible refine gate_callee (f := 12) rfl ?_); refine goesL_ (some 15) rfl rfl Tryd.func12 (by kernel_rfl) rfl #[.int .i64 a0] rfl (by (try simp only [List.map_toArray, List.map_cons, List.map_nil]); first | done | rfl | (simp only [List.length_drop, List.length_take]; rfl)) ?_; (with_reducible refine (date_Print.calls k a0 t331 t332 _ A5.out (tab_below HT0.out (by repeat (first | (with_reducible first | exact HB.out | apply below_alloc | apply pw_below_drewN | apply below_drew1) | exact HB.out)))).mono ?_); rintro e w16 ⟨rfl, hb⟩; refine ⟨_, rfl, ?_⟩; have n0_ := Aside0.mk (below_step (by repeat (first | (with_reducible first | exact HB.out | apply below_alloc | apply pw_below_drewN | apply below_drew1) | exact HB.out)) hb); clear HB; have HB := n0_; clear n0_; (try clear hb); (try clear hb2); (try clear hk); (try clear hi)) | ((with_reducible refine gate_callee (f := 10) rfl ?_); refine goesL_ (some 28) rfl rfl Tryd.func10 (by kernel_rfl) rfl #[.string t331, .int .i64 a1] rfl (by (try simp only [List.map_toArray, List.map_cons, List.map_nil]); first | done | rfl | (simp only [List.length_drop, List.length_take]; rfl)) ?_; (with_reducible refine (date_Parse.calls k t331 a1 t333 t334 _ A7.out).mono ?_); rintro e w17 ⟨rfl, hb⟩; refine ⟨_, rfl, ?_⟩; have n0_ := Aside0.mk (below_step (by repeat (first | (with_reducible first | exact HB.out | apply below_alloc | apply pw_below_drewN | apply below_drew1) | exact HB.out)) hb); clear HB; have HB := n0_; clear n0_; (try clear hb); (try clear hb2); (try clear hk); (try clear hi)) | ((with_reducible refine gate_callee (f := 10) rfl ?_); refine goesL_ (some 35) rfl rfl Tryd.func10 (by kernel_rfl) rfl #[.string (t331 ++ (⟨#[32]⟩ : ByteArray)), .int .i64 a1] rfl (by (try simp only [List.map_toArray, List.map_cons, List.map_nil]); first | done | rfl | (simp only [List.length_drop, List.length_take]; rfl)) ?_; (with_reducible refine (date_Parse.calls k (t331 ++ (⟨#[32]⟩ : ByteArray)) a1 t335 t336 _ A9.out).mono ?_); rintro e w18 ⟨rfl, hb⟩; refine ⟨_, rfl, ?_⟩; have n0_ := Aside0.mk (below_step (by repeat (first | (with_reducible first | exact HB.out | apply below_alloc | apply pw_below_drewN | apply below_drew1) | exact HB.out)) hb); clear HB; have HB := n0_; clear n0_; (try clear hb); (try clear hb2); (try clear hk); (try clear hi)) | ((with_reducible refine gate_callee (f := 9) rfl ?_); refine goesL_ (some 38) rfl rfl Tryd.func9 (by kernel_rfl) rfl #[] rfl (by (try simp only [List.map_toArray, List.map_cons, List.map_nil]); first | done | rfl | (simp only [List.length_drop, List.length_take]; rfl)) ?_; (with_reducible refine (sprlaw15_first.calls k  true _ A10.out).mono ?_); rintro e w19 ⟨rfl, hb⟩; refine ⟨_, rfl, ?_⟩; have n0_ := Aside0.mk (below_step (by repeat (first | (with_reducible first | exact HB.out | apply below_alloc | apply pw_below_drewN | apply below_drew1) | exact HB.out)) hb); clear HB; have HB := n0_; clear n0_; (try clear hb); (try clear hb2); (try clear hk); (try clear hi)))
                go_ret
                exact ⟨by first | rfl | (simp [errW_none, errW_some] <;> rfl) | (simp [*, errW_none, errW_some] <;> rfl), by repeat (first | (with_reducible first | exact HB.out | apply below_alloc | apply pw_below_drewN | apply below_drew1) | exact HB.out)⟩
              · rw [if_neg c14] at H
                have c14b0 : (t336 == 4) = false := beq_eq_false_iff_ne.mpr c14
                have c14b1 : (t336 != 4) = true := bne_iff_ne.mpr c14
                exact absurd ((Option.some.inj H).trans hT.out) (by decide)
            · rw [if_neg c13] at H
              have c13b0 : (t333 == a0) = false := beq_eq_false_iff_ne.mpr c13
              have c13b1 : (t333 != a0) = true := bne_iff_ne.mpr c13
              exact absurd ((Option.some.inj H).trans hT.out) (by decide)
          · rw [if_neg c12] at H
            have c12b0 : (t334 == 0) = false := beq_eq_false_iff_ne.mpr c12
            have c12b1 : (t334 != 0) = true := bne_iff_ne.mpr c12
            exact absurd ((Option.some.inj H).trans hT.out) (by decide)
        · replace c11 := Bool.eq_false_iff.mpr c11
          subst c11
          have H1 : (some false) = some r := by rw [if_neg (show ¬ (false = true) by decide)] at H; exact H
          clear H
          have H := H1
          clear H1
          exact absurd ((Option.some.inj H).trans hT.out) (by decide)
      · rw [if_neg c8] at H
        exact absurd H (by simp)
    · rw [if_neg c6] at H
      have c6b0 : (t332 == 0) = false := beq_eq_false_iff_ne.mpr c6
      have c6b1 : (t332 != 0) = true := bne_iff_ne.mpr c6
      replace H := Option.bind_eq_some_iff.mp H
      obtain ⟨t338, A200, H⟩ := H
      replace H : (if t338 = true then (some (t331.toList == ([] : List UInt8))) else (some false)) = some r := H
      have A20 := Aside0.mk A200
      clear A200
      by_cases c21 : t338 = true
      · subst c21
        have H1 : (some (t331.toList == ([] : List UInt8))) = some r := by rw [if_pos rfl] at H; exact H
        clear H
        have H := H1
        clear H1
        obtain rfl := Option.some.inj H
        go_enter Tryd.func5, Tryd.ntmps5
        go_wp2_with (first | ((with_reducible refine gate_callee (f := 9) rfl ?_); refine goesL_ (some 11) rfl rfl Tryd.func9 (by kernel_rfl) rfl #[] rfl (by (try simp only [List.map_toArray, List.map_cons, List.map_nil]); first | done | rfl | (simp only [List.length_drop, List.length_take]; rfl)) ?_; (with_reducible refine (sprlaw15_first.calls k  true _ A3.out).mono ?_); rintro e w22 ⟨rfl, hb⟩; refine ⟨_, rfl, ?_⟩; have n0_ := Aside0.mk (below_step (by repeat (first | (with_reducible first | exact HB.out | apply below_alloc | apply pw_below_drewN | apply below_drew1) | exact HB.out)) hb); clear HB; have HB := n0_; clear n0_; (try clear hb); (try clear hb2); (try clear hk); (try clear hi)) | ((with_reducible refine gate_callee (f := 12) rfl ?_); refine goesL_ (some 15) rfl rfl Tryd.func12 (by kernel_rfl) rfl #[.int .i64 a0] rfl (by (try simp only [List.map_toArray, List.map_cons, List.map_nil]); first | done | rfl | (simp only [List.length_drop, List.length_take]; rfl)) ?_; (with_reducible refine (date_Print.calls k a0 t331 t332 _ A5.out (tab_below HT0.out (by repeat (first | (with_reducible first | exact HB.out | apply below_alloc | apply pw_below_drewN | apply below_drew1) | exact HB.out)))).mono ?_); rintro e w23 ⟨rfl, hb⟩; refine ⟨_, rfl, ?_⟩; have n0_ := Aside0.mk (below_step (by repeat (first | (with_reducible first | exact HB.out | apply below_alloc | apply pw_below_drewN | apply below_drew1) | exact HB.out)) hb); clear HB; have HB := n0_; clear n0_; (try clear hb); (try clear hb2); (try clear hk); (try clear hi)) | ((with_reducible refine gate_callee (f := 9) rfl ?_); refine goesL_ (some 20) rfl rfl Tryd.func9 (by kernel_rfl) rfl #[] rfl (by (try simp only [List.map_toArray, List.map_cons, List.map_nil]); first | done | rfl | (simp only [List.length_drop, List.length_take]; rfl)) ?_; (with_reducible refine (sprlaw15_first.calls k  true _ A20.out).mono ?_); rintro e w24 ⟨rfl, hb⟩; refine ⟨_, rfl, ?_⟩; have n0_ := Aside0.mk (below_step (by repeat (first | (with_reducible first | exact HB.out | apply below_alloc | apply pw_below_drewN | apply below_drew1) | exact HB.out)) hb); clear HB; have HB := n0_; clear n0_; (try clear hb); (try clear hb2); (try clear hk); (try clear hi)))
        go_ret
        exact ⟨by first | rfl | (simp [errW_none, errW_some] <;> rfl) | (simp [*, errW_none, errW_some] <;> rfl), by repeat (first | (with_reducible first | exact HB.out | apply below_alloc | apply pw_below_drewN | apply below_drew1) | exact HB.out)⟩
      · replace c21 := Bool.eq_false_iff.mpr c21
        subst c21
        have H1 : (some false) = some r := by rw [if_neg (show ¬ (false = true) by decide)] at H; exact H
        clear H
        have H := H1
        clear H1
        exact absurd ((Option.some.inj H).trans hT.out) (by decide)
  · replace c4 := Bool.eq_false_iff.mpr c4
    subst c4
    have H1 : (some false) = some r := by rw [if_neg (show ¬ (false = true) by decide)] at H; exact H
    clear H
    have H := H1
    clear H1
    exact absurd ((Option.some.inj H).trans hT.out) (by decide)

/-- THE ONE PURE STATEMENT of sprlaw15_DateBack: yours. -/
def sprlaw15_DateBack.Pure : Prop := ∀ (a0 : Int) (a1 : Int), (Lit.int .i64 a0).wf = true → (Lit.int .i64 a1).wf = true → ∃ k, sprlaw15_DateBack.f k a0 a1 = some true
theorem sprlaw15_DateBack.walk (P : sprlaw15_DateBack.Pure) (a0 : Int) (a1 : Int) (w : World) (hT0 : Lib.TabIs Tryd.prog w "internal/strconv.uint64pow10" .u64 Lib.pow10Tab) (w0 : (Lit.int .i64 a0).wf = true) (w1 : (Lit.int .i64 a1).wf = true) :
    Calls Tryd.prog 5 #[.int .i64 a0, .int .i64 a1] w fun e w' => e = .returned (.bool true) ∧ Below w.heap.size w w' := by
  obtain ⟨k, h⟩ := P a0 a1 w0 w1
  refine (sprlaw15_DateBack.calls k a0 a1 true w h (Aside0.mk rfl) hT0).mono ?_
  rintro e w' ⟨rfl, hd⟩
  exact ⟨rfl, hd⟩

end Go.Proofs.YtnkmhgfhdgledaaDoor.R
