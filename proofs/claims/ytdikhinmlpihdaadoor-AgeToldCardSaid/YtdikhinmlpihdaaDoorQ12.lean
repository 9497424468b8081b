-- Written by a program of this session's (wip/xprint.py), out of the seat's translation.
import Derived.Test.YtdikhinmlpihdaaDoorQ0
import Derived.Test.YtdikhinmlpihdaaDoorQ8
import Derived.Test.YtdikhinmlpihdaaDoorQ10
import Derived.Test.YtdikhinmlpihdaaDoorQ11
namespace Go.Proofs.YtdikhinmlpihdaaDoor.Q
open Go.RowKit Go.Proofs.YtdikhinmlpihdaaDoorW.PrintWords Go.Proofs.YtdikhinmlpihdaaDoorW.PrintLast Go.Proofs.YtdikhinmlpihdaaDoorW.PrintMore
attribute [local go_sem] max2_int min2_int max_two min_two max_three min_three max_four min_four   -- for this text's walks alone
set_option linter.unusedVariables false
set_option linter.unusedSimpArgs false

/-! ### sprlaw19_AgeTold: function 4 -/
def sprlaw19_AgeTold.j0 : Nat → Int → Int → Int → Int → Int → Bool → Option (Bool)
  | 0, _, _, _, _, _, _ => none
  | k + 1, x0, x1, x2, x3, x4, x43 => if x43 = true then ((sprlaw19_first.f k).bind fun t385 => (some t385)) else ((sprlaw19_dec.f k x1).bind fun t386 => ((sprlaw19_dec.f k x2).bind fun t387 => (if 8 + t387.size ≤ 9223372036854775807 then (if ((⟨#[109, 97, 120, 45, 97, 103, 101, 61]⟩ : ByteArray) ++ t387).size + 11 ≤ 9223372036854775807 then ((sprlaw19_dec.f k x3).bind fun t388 => (if (((⟨#[109, 97, 120, 45, 97, 103, 101, 61]⟩ : ByteArray) ++ t387) ++ (⟨#[44, 32, 115, 45, 109, 97, 120, 97, 103, 101, 61]⟩ : ByteArray)).size + t388.size ≤ 9223372036854775807 then ((some (([(⟨(⟨#[65, 103, 101]⟩ : ByteArray), t386⟩ : S32), (⟨(⟨#[67, 97, 99, 104, 101, 45, 67, 111, 110, 116, 114, 111, 108]⟩ : ByteArray), (((⟨#[109, 97, 120, 45, 97, 103, 101, 61]⟩ : ByteArray) ++ t387) ++ (⟨#[44, 32, 115, 45, 109, 97, 120, 97, 103, 101, 61]⟩ : ByteArray)) ++ t388⟩ : S32)] : List (S32)) : List (S32))).bind fun y389 => ((sprlaw19_first.f k).bind fun t392 => (if t392 = true then ((age_Age.f k ([] : List (S32)) x0 x0 (wrap64 (x0 + x1))).bind fun t393 => (if t393 = x1 then ((age_Age.f k y389 x0 x0 (wrap64 (x0 + 7))).bind fun t394 => (if t394 = (mn (wrap64 (x1 + 7)) 2147483648) then ((age_Life.f k false x4 y389 x0).bind fun t395 => (if t395 = x2 then ((age_Life.f k true x4 y389 x0).bind fun t396 => (if t396 = x3 then ((age_Explicit.f k false y389).bind fun t397 => (if t397 = true then ((age_Life.f k false x4 ([] : List (S32)) x0).bind fun t398 => (some (t398 == 0))) else (some false))) else (some false))) else (some false))) else (some false))) else (some false))) else (some false)))) else (none))) else (none)) else (none))))
def sprlaw19_AgeTold.f (k : Nat) (a0 : Int) (a1 : Int) (a2 : Int) (a3 : Int) (a4 : Int) : Option (Bool) := (sprlaw19_first.f k).bind fun t384 => (if t384 = true then (if a0 < 0 then (sprlaw19_AgeTold.j0 k a0 a1 a2 a3 a4 true) else (if a0 > 1073741824 then (sprlaw19_AgeTold.j0 k a0 a1 a2 a3 a4 true) else (if a1 < 0 then (sprlaw19_AgeTold.j0 k a0 a1 a2 a3 a4 true) else (if a1 > 1073741824 then (sprlaw19_AgeTold.j0 k a0 a1 a2 a3 a4 true) else (if a2 < 0 then (sprlaw19_AgeTold.j0 k a0 a1 a2 a3 a4 true) else (if a2 > 1073741824 then (sprlaw19_AgeTold.j0 k a0 a1 a2 a3 a4 true) else (if a3 < 0 then (sprlaw19_AgeTold.j0 k a0 a1 a2 a3 a4 true) else (sprlaw19_AgeTold.j0 k a0 a1 a2 a3 a4 (decide (a3 > 1073741824)))))))))) else (some false))
theorem sprlaw19_AgeTold.mono_l : ∀ k, (∀ y0 y1 y2 y3 y4 y5, LeO (sprlaw19_AgeTold.j0 k y0 y1 y2 y3 y4 y5) (sprlaw19_AgeTold.j0 (k + 1) y0 y1 y2 y3 y4 y5))
  | 0 => fun _ _ _ _ _ _ r h => by simp [sprlaw19_AgeTold.j0] at h
  | k + 1 => by
    have ih0 := sprlaw19_AgeTold.mono_l k
    · intro y0 y1 y2 y3 y4 y5
      unfold sprlaw19_AgeTold.j0
      repeat' first
      | (with_reducible exact ih0 _ _ _ _ _ _)
      | (with_reducible exact age_Age.mono _ _ _ _ _)
      | (with_reducible exact age_Explicit.mono _ _ _)
      | (with_reducible exact age_Life.mono _ _ _ _ _)
      | (with_reducible exact sprlaw19_dec.mono _ _)
      | (with_reducible exact sprlaw19_first.mono _)
      | (with_reducible exact LeO.refl _)
      | (with_reducible exact LeO.none _)
      | (with_reducible refine LeO.ite ?_ ?_)
      | (with_reducible refine LeO.bind ?_ (fun _ => ?_))
      | exact ih0 _ _ _ _ _ _
      | exact age_Age.mono _ _ _ _ _
      | exact age_Explicit.mono _ _ _
      | exact age_Life.mono _ _ _ _ _
      | exact sprlaw19_dec.mono _ _
      | exact sprlaw19_first.mono _
      | exact LeO.none _
      | refine LeO.ite ?_ ?_
      | refine LeO.bind ?_ (fun _ => ?_)
theorem sprlaw19_AgeTold.mono : ∀ a0 a1 a2 a3 a4 k, LeO (sprlaw19_AgeTold.f k a0 a1 a2 a3 a4) (sprlaw19_AgeTold.f (k + 1) a0 a1 a2 a3 a4) := by
  intro a0 a1 a2 a3 a4 k
  have ih0 := sprlaw19_AgeTold.mono_l k
  unfold sprlaw19_AgeTold.f
  repeat' first
      | (with_reducible exact ih0 _ _ _ _ _ _)
      | (with_reducible exact age_Age.mono _ _ _ _ _)
      | (with_reducible exact age_Explicit.mono _ _ _)
      | (with_reducible exact age_Life.mono _ _ _ _ _)
      | (with_reducible exact sprlaw19_dec.mono _ _)
      | (with_reducible exact sprlaw19_first.mono _)
      | (with_reducible exact LeO.refl _)
      | (with_reducible exact LeO.none _)
      | (with_reducible refine LeO.ite ?_ ?_)
      | (with_reducible refine LeO.bind ?_ (fun _ => ?_))
      | exact ih0 _ _ _ _ _ _
      | exact age_Age.mono _ _ _ _ _
      | exact age_Explicit.mono _ _ _
      | exact age_Life.mono _ _ _ _ _
      | exact sprlaw19_dec.mono _ _
      | exact sprlaw19_first.mono _
      | exact LeO.none _
      | refine LeO.ite ?_ ?_
      | refine LeO.bind ?_ (fun _ => ?_)
set_option maxHeartbeats 2000000 in
set_option maxRecDepth 100000 in
theorem sprlaw19_AgeTold.calls (k : Nat) (a0 : Int) (a1 : Int) (a2 : Int) (a3 : Int) (a4 : Int) (r : Bool) (w : World) (h : sprlaw19_AgeTold.f k a0 a1 a2 a3 a4 = some r) (hT : Aside0 (r = true)) :
    Calls Tryd.prog 4 #[.int .i64 a0, .int .i64 a1, .int .i64 a2, .int .i64 a3, .int .i64 a4] w fun e w' => e = .returned (.bool r) ∧ Below w.heap.size w w' := by
  have hu32 := Tryd.underlying32
  have HB := Aside0.mk (Below.refl w.heap.size w)
  have H : ((sprlaw19_first.f k).bind fun t384 => (if t384 = true then (if a0 < 0 then (sprlaw19_AgeTold.j0 k a0 a1 a2 a3 a4 true) else (if a0 > 1073741824 then (sprlaw19_AgeTold.j0 k a0 a1 a2 a3 a4 true) else (if a1 < 0 then (sprlaw19_AgeTold.j0 k a0 a1 a2 a3 a4 true) else (if a1 > 1073741824 then (sprlaw19_AgeTold.j0 k a0 a1 a2 a3 a4 true) else (if a2 < 0 then (sprlaw19_AgeTold.j0 k a0 a1 a2 a3 a4 true) else (if a2 > 1073741824 then (sprlaw19_AgeTold.j0 k a0 a1 a2 a3 a4 true) else (if a3 < 0 then (sprlaw19_AgeTold.j0 k a0 a1 a2 a3 a4 true) else (sprlaw19_AgeTold.j0 k a0 a1 a2 a3 a4 (decide (a3 > 1073741824)))))))))) else (some false))) = some r := h
  clear h
  replace H := Option.bind_eq_some_iff.mp H
  obtain ⟨t384, A60, H⟩ := H
  replace H : (if t384 = true then (if a0 < 0 then (sprlaw19_AgeTold.j0 k a0 a1 a2 a3 a4 true) else (if a0 > 1073741824 then (sprlaw19_AgeTold.j0 k a0 a1 a2 a3 a4 true) else (if a1 < 0 then (sprlaw19_AgeTold.j0 k a0 a1 a2 a3 a4 true) else (if a1 > 1073741824 then (sprlaw19_AgeTold.j0 k a0 a1 a2 a3 a4 true) else (if a2 < 0 then (sprlaw19_AgeTold.j0 k a0 a1 a2 a3 a4 true) else (if a2 > 1073741824 then (sprlaw19_AgeTold.j0 k a0 a1 a2 a3 a4 true) else (if a3 < 0 then (sprlaw19_AgeTold.j0 k a0 a1 a2 a3 a4 true) else (sprlaw19_AgeTold.j0 k a0 a1 a2 a3 a4 (decide (a3 > 1073741824)))))))))) else (some false)) = some r := H
  have A6 := Aside0.mk A60
  clear A60
  by_cases c7 : t384 = true
  · subst c7
    have H1 : (if a0 < 0 then (sprlaw19_AgeTold.j0 k a0 a1 a2 a3 a4 true) else (if a0 > 1073741824 then (sprlaw19_AgeTold.j0 k a0 a1 a2 a3 a4 true) else (if a1 < 0 then (sprlaw19_AgeTold.j0 k a0 a1 a2 a3 a4 true) else (if a1 > 1073741824 then (sprlaw19_AgeTold.j0 k a0 a1 a2 a3 a4 true) else (if a2 < 0 then (sprlaw19_AgeTold.j0 k a0 a1 a2 a3 a4 true) else (if a2 > 1073741824 then (sprlaw19_AgeTold.j0 k a0 a1 a2 a3 a4 true) else (if a3 < 0 then (sprlaw19_AgeTold.j0 k a0 a1 a2 a3 a4 true) else (sprlaw19_AgeTold.j0 k a0 a1 a2 a3 a4 (decide (a3 > 1073741824)))))))))) = some r := by rw [if_pos rfl] at H; exact H
    clear H
    have H := H1
    clear H1
    have HC8 := Aside0.mk H
    clear H
    go_enter Tryd.func4, Tryd.ntmps4
    go_upto_region 3 with (first | ((with_reducible refine gate_callee (f := 6) rfl ?_); refine goesL_ (some 12) rfl rfl Tryd.func6 (by kernel_rfl) rfl #[] rfl (by (try simp only [List.map_toArray, List.map_cons, List.map_nil]); first | done | rfl | (simp only [List.length_drop, List.length_take]; rfl)) ?_; (with_reducible refine (sprlaw19_first.calls k  true _ A6.out).mono ?_); rintro e w9 ⟨rfl, hb⟩; refine ⟨_, rfl, ?_⟩; have n0_ := Aside0.mk (below_step (by repeat (first | (with_reducible first | exact HB.out | apply below_alloc | apply pw_below_drewN | apply below_drew1) | exact HB.out)) hb); clear HB; have HB := n0_; clear n0_; (try clear hb); (try clear hb2); (try clear hk); (try clear hi)))
    (try simp only [Act.put, List.setIfInBounds_toArray, List.set_cons_zero, List.set_cons_succ])
    go_cut [43] (fun v43 wc => ∃ (kq : Nat) (x43_7 : Bool), v43 = .bool x43_7 ∧ Aside0 (sprlaw19_AgeTold.j0 kq a0 a1 a2 a3 a4 x43_7 = some r) ∧ Aside0 (kq ≤ k) ∧ Aside0 (Below w.heap.size w wc))
    case first =>
      have H := HC8.out
      clear HC8
      by_cases c10 : a0 < 0
      · rw [if_pos c10] at H
        have c10b0 : decide (a0 < 0) = true := decide_eq_true c10
        clear c10
        (first | rw [c10b0] | (simp only [i64_w, i32_w]; rw [c10b0]) | skip)
        have H' := Aside0.mk H
        clear H
        go_wp2
        go_meet
        case rel => exact ⟨_, (true), (by first | rfl | (simp; done) | (simp [*]; done)), H', ⟨by first | omega | exact Nat.le_refl _⟩, ⟨by repeat (first | (with_reducible first | exact HB.out | apply below_alloc | apply pw_below_drewN | apply below_drew1) | exact HB.out)⟩⟩
      · rw [if_neg c10] at H
        have c10b0 : decide (a0 < 0) = false := decide_eq_false c10
        clear c10
        (first | rw [c10b0] | (simp only [i64_w, i32_w]; rw [c10b0]) | skip)
        by_cases c11 : a0 > 1073741824
        · rw [if_pos c11] at H
          have c11b0 : decide (1073741824 < a0) = true := decide_eq_true c11
          clear c11
          have H' := Aside0.mk H
          clear H
          go_wp2
          go_meet
          case rel => exact ⟨_, (true), (by first | rfl | (simp; done) | (simp [*]; done)), H', ⟨by first | omega | exact Nat.le_refl _⟩, ⟨by repeat (first | (with_reducible first | exact HB.out | apply below_alloc | apply pw_below_drewN | apply below_drew1) | exact HB.out)⟩⟩
        · rw [if_neg c11] at H
          have c11b0 : decide (1073741824 < a0) = false := decide_eq_false c11
          clear c11
          by_cases c12 : a1 < 0
          · rw [if_pos c12] at H
            have c12b0 : decide (a1 < 0) = true := decide_eq_true c12
            clear c12
            have H' := Aside0.mk H
            clear H
            go_wp2
            go_meet
            case rel => exact ⟨_, (true), (by first | rfl | (simp; done) | (simp [*]; done)), H', ⟨by first | omega | exact Nat.le_refl _⟩, ⟨by repeat (first | (with_reducible first | exact HB.out | apply below_alloc | apply pw_below_drewN | apply below_drew1) | exact HB.out)⟩⟩
          · rw [if_neg c12] at H
            have c12b0 : decide (a1 < 0) = false := decide_eq_false c12
            clear c12
            by_cases c13 : a1 > 1073741824
            · rw [if_pos c13] at H
              have c13b0 : decide (1073741824 < a1) = true := decide_eq_true c13
              clear c13
              have H' := Aside0.mk H
              clear H
              go_wp2
              go_meet
              case rel => exact ⟨_, (true), (by first | rfl | (simp; done) | (simp [*]; done)), H', ⟨by first | omega | exact Nat.le_refl _⟩, ⟨by repeat (first | (with_reducible first | exact HB.out | apply below_alloc | apply pw_below_drewN | apply below_drew1) | exact HB.out)⟩⟩
            · rw [if_neg c13] at H
              have c13b0 : decide (1073741824 < a1) = false := decide_eq_false c13
              clear c13
              by_cases c14 : a2 < 0
              · rw [if_pos c14] at H
                have c14b0 : decide (a2 < 0) = true := decide_eq_true c14
                clear c14
                have H' := Aside0.mk H
                clear H
                go_wp2
                go_meet
                case rel => exact ⟨_, (true), (by first | rfl | (simp; done) | (simp [*]; done)), H', ⟨by first | omega | exact Nat.le_refl _⟩, ⟨by repeat (first | (with_reducible first | exact HB.out | apply below_alloc | apply pw_below_drewN | apply below_drew1) | exact HB.out)⟩⟩
              · rw [if_neg c14] at H
                have c14b0 : decide (a2 < 0) = false := decide_eq_false c14
                clear c14
                by_cases c15 : a2 > 1073741824
                · rw [if_pos c15] at H
                  have c15b0 : decide (1073741824 < a2) = true := decide_eq_true c15
                  clear c15
                  have H' := Aside0.mk H
                  clear H
                  go_wp2
                  go_meet
                  case rel => exact ⟨_, (true), (by first | rfl | (simp; done) | (simp [*]; done)), H', ⟨by first | omega | exact Nat.le_refl _⟩, ⟨by repeat (first | (with_reducible first | exact HB.out | apply below_alloc | apply pw_below_drewN | apply below_drew1) | exact HB.out)⟩⟩
                · rw [if_neg c15] at H
                  have c15b0 : decide (1073741824 < a2) = false := decide_eq_false c15
                  clear c15
                  by_cases c16 : a3 < 0
                  · rw [if_pos c16] at H
                    have c16b0 : decide (a3 < 0) = true := decide_eq_true c16
                    clear c16
                    have H' := Aside0.mk H
                    clear H
                    go_wp2
                    go_meet
                    case rel => exact ⟨_, (true), (by first | rfl | (simp; done) | (simp [*]; done)), H', ⟨by first | omega | exact Nat.le_refl _⟩, ⟨by repeat (first | (with_reducible first | exact HB.out | apply below_alloc | apply pw_below_drewN | apply below_drew1) | exact HB.out)⟩⟩
                  · rw [if_neg c16] at H
                    have c16b0 : decide (a3 < 0) = false := decide_eq_false c16
                    clear c16
                    have H' := Aside0.mk H
                    clear H
                    go_wp2
                    go_meet
                    case rel => exact ⟨_, (decide (a3 > 1073741824)), (by first | rfl | (simp; done) | (simp [*]; done)), H', ⟨by first | omega | exact Nat.le_refl _⟩, ⟨by repeat (first | (with_reducible first | exact HB.out | apply below_alloc | apply pw_below_drewN | apply below_drew1) | exact HB.out)⟩⟩
    case rest =>
      clear HC8
      try clear c1
      try clear p2
      try clear c4
      try clear c6
      try clear c7
      try clear c10
      try clear c10b0
      try clear c11
      try clear c11b0
      try clear c12
      try clear c12b0
      try clear c13
      try clear c13b0
      try clear c14
      try clear c14b0
      try clear c15
      try clear c15b0
      try clear c16
      try clear c16b0
      obtain ⟨kq, x43_7, rfl, HA, HJ7, HB⟩ := hcut
      cases kq with
      | zero => exact absurd HA.out (by simp [sprlaw19_AgeTold.j0])
      | succ kj7 =>
        have H := HA.out
        clear HA
        simp only [sprlaw19_AgeTold.j0] at H
        by_cases c17 : x43_7 = true
        · subst c17
          have H1 : ((sprlaw19_first.f kj7).bind fun t385 => (some t385)) = some r := by rw [if_pos rfl] at H; exact H
          clear H
          have H := H1
          clear H1
          replace H := Option.bind_eq_some_iff.mp H
          obtain ⟨t385, A180, H⟩ := H
          replace H : (some t385) = some r := H
          have A18 := Aside0.mk A180
          clear A180
          obtain rfl := Option.some.inj H
          go_wp2_with (first | ((with_reducible refine gate_callee (f := 6) rfl ?_); refine goesL_ (some 44) rfl rfl Tryd.func6 (by kernel_rfl) rfl #[] rfl (by (try simp only [List.map_toArray, List.map_cons, List.map_nil]); first | done | rfl | (simp only [List.length_drop, List.length_take]; rfl)) ?_; (with_reducible refine (sprlaw19_first.calls kj7  t385 _ A18.out).mono ?_); rintro e w19 ⟨rfl, hb⟩; refine ⟨_, rfl, ?_⟩; have n0_ := Aside0.mk (below_step (by repeat (first | (with_reducible first | exact HB.out | apply below_alloc | apply pw_below_drewN | apply below_drew1) | exact HB.out)) hb); clear HB; have HB := n0_; clear n0_; (try clear hb); (try clear hb2); (try clear hk); (try clear hi)))
          go_ret
          exact ⟨by first | rfl | (simp [errW_none, errW_some] <;> rfl) | (simp [*, errW_none, errW_some] <;> rfl), by repeat (first | (with_reducible first | exact HB.out | apply below_alloc | apply pw_below_drewN | apply below_drew1) | exact HB.out)⟩
        · replace c17 := Bool.eq_false_iff.mpr c17
          subst c17
          have H1 : ((sprlaw19_dec.f kj7 a1).bind fun t386 => ((sprlaw19_dec.f kj7 a2).bind fun t387 => (if 8 + t387.size ≤ 9223372036854775807 then (if ((⟨#[109, 97, 120, 45, 97, 103, 101, 61]⟩ : ByteArray) ++ t387).size + 11 ≤ 9223372036854775807 then ((sprlaw19_dec.f kj7 a3).bind fun t388 => (if (((⟨#[109, 97, 120, 45, 97, 103, 101, 61]⟩ : ByteArray) ++ t387) ++ (⟨#[44, 32, 115, 45, 109, 97, 120, 97, 103, 101, 61]⟩ : ByteArray)).size + t388.size ≤ 9223372036854775807 then ((some (([(⟨(⟨#[65, 103, 101]⟩ : ByteArray), t386⟩ : S32), (⟨(⟨#[67, 97, 99, 104, 101, 45, 67, 111, 110, 116, 114, 111, 108]⟩ : ByteArray), (((⟨#[109, 97, 120, 45, 97, 103, 101, 61]⟩ : ByteArray) ++ t387) ++ (⟨#[44, 32, 115, 45, 109, 97, 120, 97, 103, 101, 61]⟩ : ByteArray)) ++ t388⟩ : S32)] : List (S32)) : List (S32))).bind fun y389 => ((sprlaw19_first.f kj7).bind fun t392 => (if t392 = true then ((age_Age.f kj7 ([] : List (S32)) a0 a0 (wrap64 (a0 + a1))).bind fun t393 => (if t393 = a1 then ((age_Age.f kj7 y389 a0 a0 (wrap64 (a0 + 7))).bind fun t394 => (if t394 = (mn (wrap64 (a1 + 7)) 2147483648) then ((age_Life.f kj7 false a4 y389 a0).bind fun t395 => (if t395 = a2 then ((age_Life.f kj7 true a4 y389 a0).bind fun t396 => (if t396 = a3 then ((age_Explicit.f kj7 false y389).bind fun t397 => (if t397 = true then ((age_Life.f kj7 false a4 ([] : List (S32)) a0).bind fun t398 => (some (t398 == 0))) else (some false))) else (some false))) else (some false))) else (some false))) else (some false))) else (some false)))) else (none))) else (none)) else (none)))) = some r := by rw [if_neg (show ¬ (false = true) by decide)] at H; exact H
          clear H
          have H := H1
          clear H1
          replace H := Option.bind_eq_some_iff.mp H
          obtain ⟨t386, A200, H⟩ := H
          replace H : ((sprlaw19_dec.f kj7 a2).bind fun t387 => (if 8 + t387.size ≤ 9223372036854775807 then (if ((⟨#[109, 97, 120, 45, 97, 103, 101, 61]⟩ : ByteArray) ++ t387).size + 11 ≤ 9223372036854775807 then ((sprlaw19_dec.f kj7 a3).bind fun t388 => (if (((⟨#[109, 97, 120, 45, 97, 103, 101, 61]⟩ : ByteArray) ++ t387) ++ (⟨#[44, 32, 115, 45, 109, 97, 120, 97, 103, 101, 61]⟩ : ByteArray)).size + t388.size ≤ 9223372036854775807 then ((some (([(⟨(⟨#[65, 103, 101]⟩ : ByteArray), t386⟩ : S32), (⟨(⟨#[67, 97, 99, 104, 101, 45, 67, 111, 110, 116, 114, 111, 108]⟩ : ByteArray), (((⟨#[109, 97, 120, 45, 97, 103, 101, 61]⟩ : ByteArray) ++ t387) ++ (⟨#[44, 32, 115, 45, 109, 97, 120, 97, 103, 101, 61]⟩ : ByteArray)) ++ t388⟩ : S32)] : List (S32)) : List (S32))).bind fun y389 => ((sprlaw19_first.f kj7).bind fun t392 => (if t392 = true then ((age_Age.f kj7 ([] : List (S32)) a0 a0 (wrap64 (a0 + a1))).bind fun t393 => (if t393 = a1 then ((age_Age.f kj7 y389 a0 a0 (wrap64 (a0 + 7))).bind fun t394 => (if t394 = (mn (wrap64 (a1 + 7)) 2147483648) then ((age_Life.f kj7 false a4 y389 a0).bind fun t395 => (if t395 = a2 then ((age_Life.f kj7 true a4 y389 a0).bind fun t396 => (if t396 = a3 then ((age_Explicit.f kj7 false y389).bind fun t397 => (if t397 = true then ((age_Life.f kj7 false a4 ([] : List (S32)) a0).bind fun t398 => (some (t398 == 0))) else (some false))) else (some false))) else (some false))) else (some false))) else (some false))) else (some false)))) else (none))) else (none)) else (none))) = some r := H
          have A20 := Aside0.mk A200
          clear A200
          replace H := Option.bind_eq_some_iff.mp H
          obtain ⟨t387, A210, H⟩ := H
          replace H : (if 8 + t387.size ≤ 9223372036854775807 then (if ((⟨#[109, 97, 120, 45, 97, 103, 101, 61]⟩ : ByteArray) ++ t387).size + 11 ≤ 9223372036854775807 then ((sprlaw19_dec.f kj7 a3).bind fun t388 => (if (((⟨#[109, 97, 120, 45, 97, 103, 101, 61]⟩ : ByteArray) ++ t387) ++ (⟨#[44, 32, 115, 45, 109, 97, 120, 97, 103, 101, 61]⟩ : ByteArray)).size + t388.size ≤ 9223372036854775807 then ((some (([(⟨(⟨#[65, 103, 101]⟩ : ByteArray), t386⟩ : S32), (⟨(⟨#[67, 97, 99, 104, 101, 45, 67, 111, 110, 116, 114, 111, 108]⟩ : ByteArray), (((⟨#[109, 97, 120, 45, 97, 103, 101, 61]⟩ : ByteArray) ++ t387) ++ (⟨#[44, 32, 115, 45, 109, 97, 120, 97, 103, 101, 61]⟩ : ByteArray)) ++ t388⟩ : S32)] : List (S32)) : List (S32))).bind fun y389 => ((sprlaw19_first.f kj7).bind fun t392 => (if t392 = true then ((age_Age.f kj7 ([] : List (S32)) a0 a0 (wrap64 (a0 + a1))).bind fun t393 => (if t393 = a1 then ((age_Age.f kj7 y389 a0 a0 (wrap64 (a0 + 7))).bind fun t394 => (if t394 = (mn (wrap64 (a1 + 7)) 2147483648) then ((age_Life.f kj7 false a4 y389 a0).bind fun t395 => (if t395 = a2 then ((age_Life.f kj7 true a4 y389 a0).bind fun t396 => (if t396 = a3 then ((age_Explicit.f kj7 false y389).bind fun t397 => (if t397 = true then ((age_Life.f kj7 false a4 ([] : List (S32)) a0).bind fun t398 => (some (t398 == 0))) else (some false))) else (some false))) else (some false))) else (some false))) else (some false))) else (some false)))) else (none))) else (none)) else (none)) = some r := H
          have A21 := Aside0.mk A210
          clear A210
          by_cases c22 : 8 + t387.size ≤ 9223372036854775807
          · rw [if_pos c22] at H
            have c22b0 := eq_true c22
            have c22b1 : decide (8 + t387.size ≤ 9223372036854775807) = true := decide_eq_true c22
            try have c22b2 : (9223372036854775807 < 8 + t387.size) = False := eq_false (Nat.not_lt.2 c22)
            by_cases c23 : ((⟨#[109, 97, 120, 45, 97, 103, 101, 61]⟩ : ByteArray) ++ t387).size + 11 ≤ 9223372036854775807
            · rw [if_pos c23] at H
              have c23b0 := eq_true c23
              have c23b1 : decide (((⟨#[109, 97, 120, 45, 97, 103, 101, 61]⟩ : ByteArray) ++ t387).size + 11 ≤ 9223372036854775807) = true := decide_eq_true c23
              try have c23b2 : (9223372036854775807 < ((⟨#[109, 97, 120, 45, 97, 103, 101, 61]⟩ : ByteArray) ++ t387).size + 11) = False := eq_false (Nat.not_lt.2 c23)
              (try (have c23y : (9223372036854775807 < 8 + t387.size + 11) = False := eq_false (by have zz := c23; simp only [ByteArray.size_append, ByteArray.size_extract, Nat.sub_zero] at zz; have e0 : (⟨#[109, 97, 120, 45, 97, 103, 101, 61]⟩ : ByteArray).size = 8 := rfl; omega)))
              (try (have c23s := c23; simp [go_sem] at c23s)); (try (have c23z := eq_false (Nat.not_lt.2 c23s)))
              replace H := Option.bind_eq_some_iff.mp H
              obtain ⟨t388, A240, H⟩ := H
              replace H : (if (((⟨#[109, 97, 120, 45, 97, 103, 101, 61]⟩ : ByteArray) ++ t387) ++ (⟨#[44, 32, 115, 45, 109, 97, 120, 97, 103, 101, 61]⟩ : ByteArray)).size + t388.size ≤ 9223372036854775807 then ((some (([(⟨(⟨#[65, 103, 101]⟩ : ByteArray), t386⟩ : S32), (⟨(⟨#[67, 97, 99, 104, 101, 45, 67, 111, 110, 116, 114, 111, 108]⟩ : ByteArray), (((⟨#[109, 97, 120, 45, 97, 103, 101, 61]⟩ : ByteArray) ++ t387) ++ (⟨#[44, 32, 115, 45, 109, 97, 120, 97, 103, 101, 61]⟩ : ByteArray)) ++ t388⟩ : S32)] : List (S32)) : List (S32))).bind fun y389 => ((sprlaw19_first.f kj7).bind fun t392 => (if t392 = true then ((age_Age.f kj7 ([] : List (S32)) a0 a0 (wrap64 (a0 + a1))).bind fun t393 => (if t393 = a1 then ((age_Age.f kj7 y389 a0 a0 (wrap64 (a0 + 7))).bind fun t394 => (if t394 = (mn (wrap64 (a1 + 7)) 2147483648) then ((age_Life.f kj7 false a4 y389 a0).bind fun t395 => (if t395 = a2 then ((age_Life.f kj7 true a4 y389 a0).bind fun t396 => (if t396 = a3 then ((age_Explicit.f kj7 false y389).bind fun t397 => (if t397 = true then ((age_Life.f kj7 false a4 ([] : List (S32)) a0).bind fun t398 => (some (t398 == 0))) else (some false))) else (some false))) else (some false))) else (some false))) else (some false))) else (some false)))) else (none)) = some r := H
              have A24 := Aside0.mk A240
              clear A240
              by_cases c25 : (((⟨#[109, 97, 120, 45, 97, 103, 101, 61]⟩ : ByteArray) ++ t387) ++ (⟨#[44, 32, 115, 45, 109, 97, 120, 97, 103, 101, 61]⟩ : ByteArray)).size + t388.size ≤ 9223372036854775807
              · rw [if_pos c25] at H
                have c25b0 := eq_true c25
                have c25b1 : decide ((((⟨#[109, 97, 120, 45, 97, 103, 101, 61]⟩ : ByteArray) ++ t387) ++ (⟨#[44, 32, 115, 45, 109, 97, 120, 97, 103, 101, 61]⟩ : ByteArray)).size + t388.size ≤ 9223372036854775807) = true := decide_eq_true c25
                try have c25b2 : (9223372036854775807 < (((⟨#[109, 97, 120, 45, 97, 103, 101, 61]⟩ : ByteArray) ++ t387) ++ (⟨#[44, 32, 115, 45, 109, 97, 120, 97, 103, 101, 61]⟩ : ByteArray)).size + t388.size) = False := eq_false (Nat.not_lt.2 c25)
                (try (have c25y : (9223372036854775807 < 8 + t387.size + 11 + t388.size) = False := eq_false (by have zz := c25; simp only [ByteArray.size_append, ByteArray.size_extract, Nat.sub_zero] at zz; have e0 : (⟨#[109, 97, 120, 45, 97, 103, 101, 61]⟩ : ByteArray).size = 8 := rfl; have e1 : (⟨#[44, 32, 115, 45, 109, 97, 120, 97, 103, 101, 61]⟩ : ByteArray).size = 11 := rfl; omega)))
                (try (have c25s := c25; simp [go_sem] at c25s)); (try (have c25z := eq_false (Nat.not_lt.2 c25s)))
                obtain ⟨y389, hy389⟩ : ∃ y_ : List (S32), y_ = (([(⟨(⟨#[65, 103, 101]⟩ : ByteArray), t386⟩ : S32), (⟨(⟨#[67, 97, 99, 104, 101, 45, 67, 111, 110, 116, 114, 111, 108]⟩ : ByteArray), (((⟨#[109, 97, 120, 45, 97, 103, 101, 61]⟩ : ByteArray) ++ t387) ++ (⟨#[44, 32, 115, 45, 109, 97, 120, 97, 103, 101, 61]⟩ : ByteArray)) ++ t388⟩ : S32)] : List (S32))) := ⟨_, rfl⟩
                replace H : ((sprlaw19_first.f kj7).bind fun t392 => (if t392 = true then ((age_Age.f kj7 ([] : List (S32)) a0 a0 (wrap64 (a0 + a1))).bind fun t393 => (if t393 = a1 then ((age_Age.f kj7 y389 a0 a0 (wrap64 (a0 + 7))).bind fun t394 => (if t394 = (mn (wrap64 (a1 + 7)) 2147483648) then ((age_Life.f kj7 false a4 y389 a0).bind fun t395 => (if t395 = a2 then ((age_Life.f kj7 true a4 y389 a0).bind fun t396 => (if t396 = a3 then ((age_Explicit.f kj7 false y389).bind fun t397 => (if t397 = true then ((age_Life.f kj7 false a4 ([] : List (S32)) a0).bind fun t398 => (some (t398 == 0))) else (some false))) else (some false))) else (some false))) else (some false))) else (some false))) else (some false))) = some r := by first | (rw [hy389]; with_reducible exact H) | (have H2_ := (Option.bind_some _ _).symm.trans H; rw [hy389]; with_reducible exact H2_) | (have H2_ := (Option.bind_some _ _).symm.trans H; with_reducible exact H2_) | with_reducible exact H | (rw [hy389]; exact H) | exact H
                have Ny389 := Aside0.mk hy389
                clear hy389
                replace H := Option.bind_eq_some_iff.mp H
                obtain ⟨t392, A260, H⟩ := H
                replace H : (if t392 = true then ((age_Age.f kj7 ([] : List (S32)) a0 a0 (wrap64 (a0 + a1))).bind fun t393 => (if t393 = a1 then ((age_Age.f kj7 y389 a0 a0 (wrap64 (a0 + 7))).bind fun t394 => (if t394 = (mn (wrap64 (a1 + 7)) 2147483648) then ((age_Life.f kj7 false a4 y389 a0).bind fun t395 => (if t395 = a2 then ((age_Life.f kj7 true a4 y389 a0).bind fun t396 => (if t396 = a3 then ((age_Explicit.f kj7 false y389).bind fun t397 => (if t397 = true then ((age_Life.f kj7 false a4 ([] : List (S32)) a0).bind fun t398 => (some (t398 == 0))) else (some false))) else (some false))) else (some false))) else (some false))) else (some false))) else (some false)) = some r := H
                have A26 := Aside0.mk A260
                clear A260
                by_cases c27 : t392 = true
                · subst c27
                  have H1 : ((age_Age.f kj7 ([] : List (S32)) a0 a0 (wrap64 (a0 + a1))).bind fun t393 => (if t393 = a1 then ((age_Age.f kj7 y389 a0 a0 (wrap64 (a0 + 7))).bind fun t394 => (if t394 = (mn (wrap64 (a1 + 7)) 2147483648) then ((age_Life.f kj7 false a4 y389 a0).bind fun t395 => (if t395 = a2 then ((age_Life.f kj7 true a4 y389 a0).bind fun t396 => (if t396 = a3 then ((age_Explicit.f kj7 false y389).bind fun t397 => (if t397 = true then ((age_Life.f kj7 false a4 ([] : List (S32)) a0).bind fun t398 => (some (t398 == 0))) else (some false))) else (some false))) else (some false))) else (some false))) else (some false))) = some r := by rw [if_pos rfl] at H; exact H
                  clear H
                  have H := H1
                  clear H1
                  replace H := Option.bind_eq_some_iff.mp H
                  obtain ⟨t393, A280, H⟩ := H
                  replace H : (if t393 = a1 then ((age_Age.f kj7 y389 a0 a0 (wrap64 (a0 + 7))).bind fun t394 => (if t394 = (mn (wrap64 (a1 + 7)) 2147483648) then ((age_Life.f kj7 false a4 y389 a0).bind fun t395 => (if t395 = a2 then ((age_Life.f kj7 true a4 y389 a0).bind fun t396 => (if t396 = a3 then ((age_Explicit.f kj7 false y389).bind fun t397 => (if t397 = true then ((age_Life.f kj7 false a4 ([] : List (S32)) a0).bind fun t398 => (some (t398 == 0))) else (some false))) else (some false))) else (some false))) else (some false))) else (some false)) = some r := H
                  have A28 := Aside0.mk A280
                  clear A280
                  by_cases c29 : t393 = a1
                  · rw [if_pos c29] at H
                    have c29b0 : (t393 == a1) = true := beq_iff_eq.mpr c29
                    have c29b1 : (t393 != a1) = false := bne_eq_false_iff_eq.mpr c29
                    clear c29
                    replace H := Option.bind_eq_some_iff.mp H
                    obtain ⟨t394, A300, H⟩ := H
                    replace H : (if t394 = (mn (wrap64 (a1 + 7)) 2147483648) then ((age_Life.f kj7 false a4 y389 a0).bind fun t395 => (if t395 = a2 then ((age_Life.f kj7 true a4 y389 a0).bind fun t396 => (if t396 = a3 then ((age_Explicit.f kj7 false y389).bind fun t397 => (if t397 = true then ((age_Life.f kj7 false a4 ([] : List (S32)) a0).bind fun t398 => (some (t398 == 0))) else (some false))) else (some false))) else (some false))) else (some false)) = some r := H
                    have A30 := Aside0.mk A300
                    clear A300
                    obtain ⟨ji31, hji31⟩ : ∃ j_ : Int, (mn (wrap64 (a1 + 7)) 2147483648) = j_ := ⟨_, rfl⟩
                    replace H : (if t394 = (ji31) then ((age_Life.f kj7 false a4 y389 a0).bind fun t395 => (if t395 = a2 then ((age_Life.f kj7 true a4 y389 a0).bind fun t396 => (if t396 = a3 then ((age_Explicit.f kj7 false y389).bind fun t397 => (if t397 = true then ((age_Life.f kj7 false a4 ([] : List (S32)) a0).bind fun t398 => (some (t398 == 0))) else (some false))) else (some false))) else (some false))) else (some false)) = some r := by first | (rw [hji31] at H; exact H) | (simp only [hji31] at H ⊢; exact H)
                    (try rw [hji31] at A20)
                    (try rw [hji31] at A21)
                    (try rw [hji31] at A24)
                    (try rw [hji31] at A26)
                    (try rw [hji31] at A28)
                    (try rw [hji31] at A30)
                    have hji31_ : (if 2147483648 < (wrap64 (a1 + 7)) then 2147483648 else (wrap64 (a1 + 7))) = ji31 := hji31
                    by_cases c32 : t394 = (ji31)
                    · rw [if_pos c32] at H
                      have c32b0 : (t394 == (ji31)) = true := beq_iff_eq.mpr c32
                      have c32b1 : (t394 != (ji31)) = false := bne_eq_false_iff_eq.mpr c32
                      clear c32
                      replace H := Option.bind_eq_some_iff.mp H
                      obtain ⟨t395, A330, H⟩ := H
                      replace H : (if t395 = a2 then ((age_Life.f kj7 true a4 y389 a0).bind fun t396 => (if t396 = a3 then ((age_Explicit.f kj7 false y389).bind fun t397 => (if t397 = true then ((age_Life.f kj7 false a4 ([] : List (S32)) a0).bind fun t398 => (some (t398 == 0))) else (some false))) else (some false))) else (some false)) = some r := H
                      have A33 := Aside0.mk A330
                      clear A330
                      by_cases c34 : t395 = a2
                      · rw [if_pos c34] at H
                        have c34b0 : (t395 == a2) = true := beq_iff_eq.mpr c34
                        have c34b1 : (t395 != a2) = false := bne_eq_false_iff_eq.mpr c34
                        clear c34
                        replace H := Option.bind_eq_some_iff.mp H
                        obtain ⟨t396, A350, H⟩ := H
                        replace H : (if t396 = a3 then ((age_Explicit.f kj7 false y389).bind fun t397 => (if t397 = true then ((age_Life.f kj7 false a4 ([] : List (S32)) a0).bind fun t398 => (some (t398 == 0))) else (some false))) else (some false)) = some r := H
                        have A35 := Aside0.mk A350
                        clear A350
                        by_cases c36 : t396 = a3
                        · rw [if_pos c36] at H
                          have c36b0 : (t396 == a3) = true := beq_iff_eq.mpr c36
                          have c36b1 : (t396 != a3) = false := bne_eq_false_iff_eq.mpr c36
                          clear c36
                          replace H := Option.bind_eq_some_iff.mp H
                          obtain ⟨t397, A370, H⟩ := H
                          replace H : (if t397 = true then ((age_Life.f kj7 false a4 ([] : List (S32)) a0).bind fun t398 => (some (t398 == 0))) else (some false)) = some r := H
                          have A37 := Aside0.mk A370
                          clear A370
                          by_cases c38 : t397 = true
                          · subst c38
                            have H1 : ((age_Life.f kj7 false a4 ([] : List (S32)) a0).bind fun t398 => (some (t398 == 0))) = some r := by rw [if_pos rfl] at H; exact H
                            clear H
                            have H := H1
                            clear H1
                            replace H := Option.bind_eq_some_iff.mp H
                            obtain ⟨t398, A390, H⟩ := H
                            replace H : (some (t398 == 0)) = some r := H
                            have A39 := Aside0.mk A390
                            clear A390
                            obtain rfl := Option.some.inj H
                            go_wp2_with (first | ((with_reducible refine gate_callee (f := 12) rfl ?_); refine goesL_ (some 46) rfl rfl Tryd.func12 (by kernel_rfl) rfl #[.int .i64 a1] rfl (by (try simp only [List.map_toArray, List.map_cons, List.map_nil]); first | done | rfl | (simp only [List.length_drop, List.length_take]; rfl)) ?_; (with_reducible refine (sprlaw19_dec.calls kj7 a1 t386 _ A20.out).mono ?_); rintro e w40 ⟨rfl, hb⟩; refine ⟨_, rfl, ?_⟩; have n0_ := Aside0.mk (below_step (by repeat (first | (with_reducible first | exact HB.out | apply below_alloc | apply pw_below_drewN | apply below_drew1) | exact HB.out)) hb); clear HB; have HB := n0_; clear n0_; (try clear hb); (try clear hb2); (try clear hk); (try clear hi)) | ((with_reducible refine gate_callee (f := 12) rfl ?_); refine goesL_ (some 49) rfl rfl Tryd.func12 (by kernel_rfl) rfl #[.int .i64 a2] rfl (by (try simp only [List.map_toArray, List.map_cons, List.map_nil]); first | done | rfl | (simp only [List.length_drop, List.length_take]; rfl)) ?_; (with_reducible refine (sprlaw19_dec.calls kj7 a2 t387 _ A21.out).mono ?_); rintro e w41 ⟨rfl, hb⟩; refine ⟨_, rfl, ?_⟩; have n0_ := Aside0.mk (below_step (by repeat (first | (with_reducible first | exact HB.out | apply below_alloc | apply pw_below_drewN | apply below_drew1) | exact HB.out)) hb); clear HB; have HB := n0_; clear n0_; (try clear hb); (try clear hb2); (try clear hk); (try clear hi)) | ((with_reducible refine gate_callee (f := 12) rfl ?_); refine goesL_ (some 53) rfl rfl Tryd.func12 (by kernel_rfl) rfl #[.int .i64 a3] rfl (by (try simp only [List.map_toArray, List.map_cons, List.map_nil]); first | done | rfl | (simp only [List.length_drop, List.length_take]; rfl)) ?_; (with_reducible refine (sprlaw19_dec.calls kj7 a3 t388 _ A24.out).mono ?_); rintro e w42 ⟨rfl, hb⟩; refine ⟨_, rfl, ?_⟩; have n0_ := Aside0.mk (below_step (by repeat (first | (with_reducible first | exact HB.out | apply below_alloc | apply pw_below_drewN | apply below_drew1) | exact HB.out)) hb); clear HB; have HB := n0_; clear n0_; (try clear hb); (try clear hb2); (try clear hk); (try clear hi)) | ((with_reducible refine gate_dst (N := 56) rfl ?_); (try (refine gate_guard (by rfl) ?_; dsimp only)); refine Kd.R_lit k32 _ 32 ?hg (N := 56) ?hd (xs := ([(⟨(⟨#[65, 103, 101]⟩ : ByteArray), t386⟩ : S32), (⟨(⟨#[67, 97, 99, 104, 101, 45, 67, 111, 110, 116, 114, 111, 108]⟩ : ByteArray), (((⟨#[109, 97, 120, 45, 97, 103, 101, 61]⟩ : ByteArray) ++ t387) ++ (⟨#[44, 32, 115, 45, 109, 97, 120, 97, 103, 101, 61]⟩ : ByteArray)) ++ t388⟩ : S32)] : List (S32))) (inner := [.string (⟨#[65, 103, 101]⟩ : ByteArray), .string t386, .string (⟨#[67, 97, 99, 104, 101, 45, 67, 111, 110, 116, 114, 111, 108]⟩ : ByteArray), .string ((((⟨#[109, 97, 120, 45, 97, 103, 101, 61]⟩ : ByteArray) ++ t387) ++ (⟨#[44, 32, 115, 45, 109, 97, 120, 97, 103, 101, 61]⟩ : ByteArray)) ++ t388)]) (ok := fun _ => True) (okp := fun _ => True) ?hr ?hp (fun _ hk => hk) trivial (Below.refl _ _) (Nat.le_refl _) (by simp) ?_; (case hd => rfl); (case hg => rfl); (case hr => first | (go_simp; done) | (go_simp; rfl)); (case hp => exact (Reps.c2 (show Kd.M k32 _ _ _ (⟨(⟨#[65, 103, 101]⟩ : ByteArray), t386⟩ : S32) [.string (⟨#[65, 103, 101]⟩ : ByteArray), .string t386] from (k32_mkM _ _ _ (⟨(⟨#[65, 103, 101]⟩ : ByteArray), t386⟩ : S32) )) (Reps.c2 (show Kd.M k32 _ _ _ (⟨(⟨#[67, 97, 99, 104, 101, 45, 67, 111, 110, 116, 114, 111, 108]⟩ : ByteArray), (((⟨#[109, 97, 120, 45, 97, 103, 101, 61]⟩ : ByteArray) ++ t387) ++ (⟨#[44, 32, 115, 45, 109, 97, 120, 97, 103, 101, 61]⟩ : ByteArray)) ++ t388⟩ : S32) [.string (⟨#[67, 97, 99, 104, 101, 45, 67, 111, 110, 116, 114, 111, 108]⟩ : ByteArray), .string ((((⟨#[109, 97, 120, 45, 97, 103, 101, 61]⟩ : ByteArray) ++ t387) ++ (⟨#[44, 32, 115, 45, 109, 97, 120, 97, 103, 101, 61]⟩ : ByteArray)) ++ t388)] from (k32_mkM _ _ _ (⟨(⟨#[67, 97, 99, 104, 101, 45, 67, 111, 110, 116, 114, 111, 108]⟩ : ByteArray), (((⟨#[109, 97, 120, 45, 97, 103, 101, 61]⟩ : ByteArray) ++ t387) ++ (⟨#[44, 32, 115, 45, 109, 97, 120, 97, 103, 101, 61]⟩ : ByteArray)) ++ t388⟩ : S32) )) (Reps.none _ _)))); intro v390 w43 ho44 hb hg_ hnew_; clear hg_ hnew_; (first | rw [← Ny389.out] at ho44 | (simp only [Int.reduceToNat] at ho44; rw [← Ny389.out] at ho44)); have n0_ := Aside0.mk (Kd.R_lower ho44 (below_size (by repeat (first | (with_reducible first | exact HB.out | apply below_alloc | apply pw_below_drewN | apply below_drew1) | exact HB.out)))); have n1_ := Aside0.mk (below_step (by repeat (first | (with_reducible first | exact HB.out | apply below_alloc | apply pw_below_drewN | apply below_drew1) | exact HB.out)) hb); clear HB; have HO391 := n0_; have HB := n1_; clear n0_ n1_; clear hb ho44) | ((with_reducible refine gate_callee (f := 6) rfl ?_); refine goesL_ (some 57) rfl rfl Tryd.func6 (by kernel_rfl) rfl #[] rfl (by (try simp only [List.map_toArray, List.map_cons, List.map_nil]); first | done | rfl | (simp only [List.length_drop, List.length_take]; rfl)) ?_; (with_reducible refine (sprlaw19_first.calls kj7  true _ A26.out).mono ?_); rintro e w45 ⟨rfl, hb⟩; refine ⟨_, rfl, ?_⟩; have n0_ := Aside0.mk (Kd.R_below (by (with_reducible repeat (first | apply Kd.R_alloc | apply Kd.R_drewN | apply Kd.R_drew)); exact HO391.out) hb); have n1_ := Aside0.mk (below_step (by repeat (first | (with_reducible first | exact HB.out | apply below_alloc | apply pw_below_drewN | apply below_drew1) | exact HB.out)) hb); clear HO391; clear HB; have HO391 := n0_; have HB := n1_; clear n0_ n1_; (try clear hb); (try clear hb2); (try clear hk); (try clear hi)) | (go_at_call 8; (with_reducible refine (age_Age.calls kj7 _ _ y389 a0 a0 (wrap64 (a0 + 7)) t394 _ ?side1 ?side2 A30.out).mono ?_); (case side1 => repeat (first | exact (Kd.R_reads' HO391.out).2.2 | (with_reducible refine Kd.C_alloc ?_ _) | (with_reducible refine Kd.C_drewN ?_ _) | (with_reducible refine Kd.C_drew ?_))); (case side2 => exact (Kd.R_reads' HO391.out).2.1); rintro e w48 ⟨rfl, hb⟩; have n0_ := Aside0.mk (Kd.R_below (by (with_reducible repeat (first | apply Kd.R_alloc | apply Kd.R_drewN | apply Kd.R_drew)); exact HO391.out) hb); have n1_ := Aside0.mk (below_step (by repeat (first | (with_reducible first | exact HB.out | apply below_alloc | apply pw_below_drewN | apply below_drew1) | exact HB.out)) hb); clear HO391; clear HB; have HO391 := n0_; have HB := n1_; clear n0_ n1_; (try clear hb); (try clear hb2); (try clear hk); (try clear hi)) | (go_at_call 9; (with_reducible refine (age_Life.calls kj7 false a4 _ _ y389 a0 t395 _ ?side1 ?side2 A33.out).mono ?_); (case side1 => repeat (first | exact (Kd.R_reads' HO391.out).2.2 | (with_reducible refine Kd.C_alloc ?_ _) | (with_reducible refine Kd.C_drewN ?_ _) | (with_reducible refine Kd.C_drew ?_))); (case side2 => exact (Kd.R_reads' HO391.out).2.1); rintro e w49 ⟨rfl, hb⟩; have n0_ := Aside0.mk (Kd.R_below (by (with_reducible repeat (first | apply Kd.R_alloc | apply Kd.R_drewN | apply Kd.R_drew)); exact HO391.out) hb); have n1_ := Aside0.mk (below_step (by repeat (first | (with_reducible first | exact HB.out | apply below_alloc | apply pw_below_drewN | apply below_drew1) | exact HB.out)) hb); clear HO391; clear HB; have HO391 := n0_; have HB := n1_; clear n0_ n1_; (try clear hb); (try clear hb2); (try clear hk); (try clear hi)) | (go_at_call 9; (with_reducible refine (age_Life.calls kj7 true a4 _ _ y389 a0 t396 _ ?side1 ?side2 A35.out).mono ?_); (case side1 => repeat (first | exact (Kd.R_reads' HO391.out).2.2 | (with_reducible refine Kd.C_alloc ?_ _) | (with_reducible refine Kd.C_drewN ?_ _) | (with_reducible refine Kd.C_drew ?_))); (case side2 => exact (Kd.R_reads' HO391.out).2.1); rintro e w50 ⟨rfl, hb⟩; have n0_ := Aside0.mk (Kd.R_below (by (with_reducible repeat (first | apply Kd.R_alloc | apply Kd.R_drewN | apply Kd.R_drew)); exact HO391.out) hb); have n1_ := Aside0.mk (below_step (by repeat (first | (with_reducible first | exact HB.out | apply below_alloc | apply pw_below_drewN | apply below_drew1) | exact HB.out)) hb); clear HO391; clear HB; have HO391 := n0_; have HB := n1_; clear n0_ n1_; (try clear hb); (try clear hb2); (try clear hk); (try clear hi)) | (go_at_call 13; (with_reducible refine (age_Explicit.calls kj7 false _ _ y389 true _ ?side1 ?side2 A37.out).mono ?_); (case side1 => repeat (first | exact (Kd.R_reads' HO391.out).2.2 | (with_reducible refine Kd.C_alloc ?_ _) | (with_reducible refine Kd.C_drewN ?_ _) | (with_reducible refine Kd.C_drew ?_))); (case side2 => exact (Kd.R_reads' HO391.out).2.1); rintro e w51 ⟨rfl, hb⟩; have n0_ := Aside0.mk (Kd.R_below (by (with_reducible repeat (first | apply Kd.R_alloc | apply Kd.R_drewN | apply Kd.R_drew)); exact HO391.out) hb); have n1_ := Aside0.mk (below_step (by repeat (first | (with_reducible first | exact HB.out | apply below_alloc | apply pw_below_drewN | apply below_drew1) | exact HB.out)) hb); clear HO391; clear HB; have HO391 := n0_; have HB := n1_; clear n0_ n1_; (try clear hb); (try clear hb2); (try clear hk); (try clear hi)) | (go_at_call 8; (refine (age_Age.calls kj7 _ _ ([] : List (S32)) a0 a0 (wrap64 (a0 + a1)) t393 _ ?side1 ?side2 A28.out).mono ?_); (case side1 => exact Kd.C_nil _ _); (case side2 => exact Nat.le_refl _); rintro e w46 ⟨rfl, hb⟩; have n0_ := Aside0.mk (Kd.R_below (by (with_reducible repeat (first | apply Kd.R_alloc | apply Kd.R_drewN | apply Kd.R_drew)); exact HO391.out) hb); have n1_ := Aside0.mk (below_step (by repeat (first | (with_reducible first | exact HB.out | apply below_alloc | apply pw_below_drewN | apply below_drew1) | exact HB.out)) hb); clear HO391; clear HB; have HO391 := n0_; have HB := n1_; clear n0_ n1_; (try clear hb); (try clear hb2); (try clear hk); (try clear hi); obtain ⟨Ao47, co47, eo47⟩ := Kd.R_slice HO391.out; subst eo47) | (go_at_call 9; (refine (age_Life.calls kj7 false a4 _ _ ([] : List (S32)) a0 t398 _ ?side1 ?side2 A39.out).mono ?_); (case side1 => exact Kd.C_nil _ _); (case side2 => exact Nat.le_refl _); rintro e w52 ⟨rfl, hb⟩; have n0_ := Aside0.mk (Kd.R_below (by (with_reducible repeat (first | apply Kd.R_alloc | apply Kd.R_drewN | apply Kd.R_drew)); exact HO391.out) hb); have n1_ := Aside0.mk (below_step (by repeat (first | (with_reducible first | exact HB.out | apply below_alloc | apply pw_below_drewN | apply below_drew1) | exact HB.out)) hb); clear HO391; clear HB; have HO391 := n0_; have HB := n1_; clear n0_ n1_; (try clear hb); (try clear hb2); (try clear hk); (try clear hi)))
                            go_ret
                            exact ⟨by first | rfl | (simp [errW_none, errW_some] <;> rfl) | (simp only [← hji31]; first | rfl | (simp [errW_none, errW_some] <;> rfl)) | (simp [*, errW_none, errW_some] <;> rfl), by repeat (first | (with_reducible first | exact HB.out | apply below_alloc | apply pw_below_drewN | apply below_drew1) | exact HB.out)⟩
                          · replace c38 := Bool.eq_false_iff.mpr c38
                            subst c38
                            have H1 : (some false) = some r := by rw [if_neg (show ¬ (false = true) by decide)] at H; exact H
                            clear H
                            have H := H1
                            clear H1
                            exact absurd ((Option.some.inj H).trans hT.out) (by decide)
                        · rw [if_neg c36] at H
                          have c36b0 : (t396 == a3) = false := beq_eq_false_iff_ne.mpr c36
                          have c36b1 : (t396 != a3) = true := bne_iff_ne.mpr c36
                          exact absurd ((Option.some.inj H).trans hT.out) (by decide)
                      · rw [if_neg c34] at H
                        have c34b0 : (t395 == a2) = false := beq_eq_false_iff_ne.mpr c34
                        have c34b1 : (t395 != a2) = true := bne_iff_ne.mpr c34
                        exact absurd ((Option.some.inj H).trans hT.out) (by decide)
                    · rw [if_neg c32] at H
                      have c32b0 : (t394 == (ji31)) = false := beq_eq_false_iff_ne.mpr c32
                      have c32b1 : (t394 != (ji31)) = true := bne_iff_ne.mpr c32
                      exact absurd ((Option.some.inj H).trans hT.out) (by decide)
                  · rw [if_neg c29] at H
                    have c29b0 : (t393 == a1) = false := beq_eq_false_iff_ne.mpr c29
                    have c29b1 : (t393 != a1) = true := bne_iff_ne.mpr c29
                    exact absurd ((Option.some.inj H).trans hT.out) (by decide)
                · replace c27 := Bool.eq_false_iff.mpr c27
                  subst c27
                  have H1 : (some false) = some r := by rw [if_neg (show ¬ (false = true) by decide)] at H; exact H
                  clear H
                  have H := H1
                  clear H1
                  exact absurd ((Option.some.inj H).trans hT.out) (by decide)
              · rw [if_neg c25] at H
                exact absurd H (by simp)
            · rw [if_neg c23] at H
              exact absurd H (by simp)
          · rw [if_neg c22] at H
            exact absurd H (by simp)
  · replace c7 := Bool.eq_false_iff.mpr c7
    subst c7
    have H1 : (some false) = some r := by rw [if_neg (show ¬ (false = true) by decide)] at H; exact H
    clear H
    have H := H1
    clear H1
    exact absurd ((Option.some.inj H).trans hT.out) (by decide)

/-- THE ONE PURE STATEMENT of sprlaw19_AgeTold: yours. -/
def sprlaw19_AgeTold.Pure : Prop := ∀ (a0 : Int) (a1 : Int) (a2 : Int) (a3 : Int) (a4 : Int), (Lit.int .i64 a0).wf = true → (Lit.int .i64 a1).wf = true → (Lit.int .i64 a2).wf = true → (Lit.int .i64 a3).wf = true → (Lit.int .i64 a4).wf = true → ∃ k, sprlaw19_AgeTold.f k a0 a1 a2 a3 a4 = some true
theorem sprlaw19_AgeTold.walk (P : sprlaw19_AgeTold.Pure) (a0 : Int) (a1 : Int) (a2 : Int) (a3 : Int) (a4 : Int) (w : World) (w0 : (Lit.int .i64 a0).wf = true) (w1 : (Lit.int .i64 a1).wf = true) (w2 : (Lit.int .i64 a2).wf = true) (w3 : (Lit.int .i64 a3).wf = true) (w4 : (Lit.int .i64 a4).wf = true) :
    Calls Tryd.prog 4 #[.int .i64 a0, .int .i64 a1, .int .i64 a2, .int .i64 a3, .int .i64 a4] w fun e w' => e = .returned (.bool true) ∧ Below w.heap.size w w' := by
  obtain ⟨k, h⟩ := P a0 a1 a2 a3 a4 w0 w1 w2 w3 w4
  refine (sprlaw19_AgeTold.calls k a0 a1 a2 a3 a4 true w h (Aside0.mk rfl)).mono ?_
  rintro e w' ⟨rfl, hd⟩
  exact ⟨rfl, hd⟩

end Go.Proofs.YtdikhinmlpihdaaDoor.Q
