-- Written by a program of this session's (wip/xprint.py), out of the seat's translation.
import Derived.Test.YtbnlglfddglceaaDoorQ0
import Derived.Test.YtbnlglfddglceaaDoorQ1
import Derived.Test.YtbnlglfddglceaaDoorQ6
import Derived.Test.YtbnlglfddglceaaDoorQ7
namespace Go.Proofs.YtbnlglfddglceaaDoor.Q
open Go.RowKit Go.Proofs.YtbnlglfddglceaaDoorW.PrintWords Go.Proofs.YtbnlglfddglceaaDoorW.PrintLast Go.Proofs.YtbnlglfddglceaaDoorW.PrintMore
attribute [local go_sem] max2_int min2_int max_two min_two max_three min_three max_four min_four   -- for this text's walks alone
set_option linter.unusedVariables false
set_option linter.unusedSimpArgs false

/-! ### sprlaw20_MayKinds: function 5 -/
def sprlaw20_MayKinds.j0 : Nat → Bool → Int → ByteArray → ByteArray → Bool → Option (Bool)
  | 0, _, _, _, _, _ => none
  | k + 1, x0, x1, x2, x3, x39 => if x39 = true then ((sprlaw20_first.f k).bind fun t359 => (some t359)) else ((may_Store.f k x0 x2 (⟨#[71, 69, 84]⟩ : ByteArray) x3 ([] : List (S42)) x1 ([] : List (S42)) ([] : List Int)).bind fun t361 => ((may_Store.f k x0 x2 (⟨#[71, 69, 84]⟩ : ByteArray) x3 ([] : List (S42)) x1 (([(⟨(⟨#[67, 97, 99, 104, 101, 45, 67, 111, 110, 116, 114, 111, 108]⟩ : ByteArray), (⟨#[109, 97, 120, 45, 97, 103, 101, 61, 49]⟩ : ByteArray)⟩ : S42)] : List (S42))) ([] : List Int)).bind fun t365 => ((may_Store.f k x0 x2 (⟨#[71, 69, 84]⟩ : ByteArray) x3 ([] : List (S42)) x1 (([(⟨(⟨#[67, 97, 99, 104, 101, 45, 67, 111, 110, 116, 114, 111, 108]⟩ : ByteArray), (⟨#[112, 117, 98, 108, 105, 99]⟩ : ByteArray)⟩ : S42), (⟨(⟨#[86, 97, 114, 121]⟩ : ByteArray), (⟨#[42]⟩ : ByteArray)⟩ : S42)] : List (S42))) ([] : List Int)).bind fun t369 => ((may_Store.f k x0 x2 (⟨#[71, 69, 84]⟩ : ByteArray) x3 ([] : List (S42)) x1 (([(⟨(⟨#[67, 97, 99, 104, 101, 45, 67, 111, 110, 116, 114, 111, 108]⟩ : ByteArray), (⟨#[109, 97, 120, 45, 97, 103, 101, 61, 49, 44, 32, 109, 117, 115, 116, 45, 117, 110, 100, 101, 114, 115, 116, 97, 110, 100]⟩ : ByteArray)⟩ : S42)] : List (S42))) ([] : List Int)).bind fun t373 => ((sprlaw20_first.f k).bind fun t374 => (if t374 = true then ((age_Usual.f x1).bind fun t375 => (if ((t361 == 0) == t375) = true then (if t365 = 0 then (if t369 = 6 then (some ((t373 == 0) == t375)) else (some false)) else (some false)) else (some false))) else (some false)))))))
def sprlaw20_MayKinds.f (k : Nat) (a0 : Bool) (a1 : Int) (a2 : ByteArray) (a3 : ByteArray) : Option (Bool) := (sprlaw20_first.f k).bind fun t358 => (if t358 = true then (if (a2.size : Int) > 1000 then (sprlaw20_MayKinds.j0 k a0 a1 a2 a3 true) else (if (a3.size : Int) > 1000 then (sprlaw20_MayKinds.j0 k a0 a1 a2 a3 true) else (if a1 < 200 then (sprlaw20_MayKinds.j0 k a0 a1 a2 a3 true) else (if a1 > 599 then (sprlaw20_MayKinds.j0 k a0 a1 a2 a3 true) else (if a1 = 206 then (sprlaw20_MayKinds.j0 k a0 a1 a2 a3 true) else (sprlaw20_MayKinds.j0 k a0 a1 a2 a3 (a1 == 304))))))) else (some false))
theorem sprlaw20_MayKinds.mono_l : ∀ k, (∀ y0 y1 y2 y3 y4, LeO (sprlaw20_MayKinds.j0 k y0 y1 y2 y3 y4) (sprlaw20_MayKinds.j0 (k + 1) y0 y1 y2 y3 y4))
  | 0 => fun _ _ _ _ _ r h => by simp [sprlaw20_MayKinds.j0] at h
  | k + 1 => by
    have ih0 := sprlaw20_MayKinds.mono_l k
    · intro y0 y1 y2 y3 y4
      unfold sprlaw20_MayKinds.j0
      repeat' first
      | (with_reducible exact ih0 _ _ _ _ _)
      | (with_reducible exact may_Store.mono _ _ _ _ _ _ _ _ _)
      | (with_reducible exact sprlaw20_first.mono _)
      | (with_reducible exact LeO.refl _)
      | (with_reducible exact LeO.none _)
      | (with_reducible refine LeO.ite ?_ ?_)
      | (with_reducible refine LeO.bind ?_ (fun _ => ?_))
      | exact ih0 _ _ _ _ _
      | exact may_Store.mono _ _ _ _ _ _ _ _ _
      | exact sprlaw20_first.mono _
      | exact LeO.none _
      | refine LeO.ite ?_ ?_
      | refine LeO.bind ?_ (fun _ => ?_)
theorem sprlaw20_MayKinds.mono : ∀ a0 a1 a2 a3 k, LeO (sprlaw20_MayKinds.f k a0 a1 a2 a3) (sprlaw20_MayKinds.f (k + 1) a0 a1 a2 a3) := by
  intro a0 a1 a2 a3 k
  have ih0 := sprlaw20_MayKinds.mono_l k
  unfold sprlaw20_MayKinds.f
  repeat' first
      | (with_reducible exact ih0 _ _ _ _ _)
      | (with_reducible exact may_Store.mono _ _ _ _ _ _ _ _ _)
      | (with_reducible exact sprlaw20_first.mono _)
      | (with_reducible exact LeO.refl _)
      | (with_reducible exact LeO.none _)
      | (with_reducible refine LeO.ite ?_ ?_)
      | (with_reducible refine LeO.bind ?_ (fun _ => ?_))
      | exact ih0 _ _ _ _ _
      | exact may_Store.mono _ _ _ _ _ _ _ _ _
      | exact sprlaw20_first.mono _
      | exact LeO.none _
      | refine LeO.ite ?_ ?_
      | refine LeO.bind ?_ (fun _ => ?_)
set_option maxHeartbeats 8000000 in
set_option maxRecDepth 100000 in
theorem sprlaw20_MayKinds.calls (k : Nat) (a0 : Bool) (a1 : Int) (a2 : ByteArray) (a3 : ByteArray) (r : Bool) (w : World) (h : sprlaw20_MayKinds.f k a0 a1 a2 a3 = some r) (hT : Aside0 (r = true)) :
    Calls Tryd.prog 5 #[.bool a0, .int .i64 a1, .string a2, .string a3] w fun e w' => e = .returned (.bool r) ∧ Below w.heap.size w w' := by
  have hu24 := Tryd.underlying24
  have hu27 := Tryd.underlying27
  have hu42 := Tryd.underlying42
  have HB := Aside0.mk (Below.refl w.heap.size w)
  have H : ((sprlaw20_first.f k).bind fun t358 => (if t358 = true then (if (a2.size : Int) > 1000 then (sprlaw20_MayKinds.j0 k a0 a1 a2 a3 true) else (if (a3.size : Int) > 1000 then (sprlaw20_MayKinds.j0 k a0 a1 a2 a3 true) else (if a1 < 200 then (sprlaw20_MayKinds.j0 k a0 a1 a2 a3 true) else (if a1 > 599 then (sprlaw20_MayKinds.j0 k a0 a1 a2 a3 true) else (if a1 = 206 then (sprlaw20_MayKinds.j0 k a0 a1 a2 a3 true) else (sprlaw20_MayKinds.j0 k a0 a1 a2 a3 (a1 == 304))))))) else (some false))) = some r := h
  clear h
  replace H := Option.bind_eq_some_iff.mp H
  obtain ⟨t358, A50, H⟩ := H
  replace H : (if t358 = true then (if (a2.size : Int) > 1000 then (sprlaw20_MayKinds.j0 k a0 a1 a2 a3 true) else (if (a3.size : Int) > 1000 then (sprlaw20_MayKinds.j0 k a0 a1 a2 a3 true) else (if a1 < 200 then (sprlaw20_MayKinds.j0 k a0 a1 a2 a3 true) else (if a1 > 599 then (sprlaw20_MayKinds.j0 k a0 a1 a2 a3 true) else (if a1 = 206 then (sprlaw20_MayKinds.j0 k a0 a1 a2 a3 true) else (sprlaw20_MayKinds.j0 k a0 a1 a2 a3 (a1 == 304))))))) else (some false)) = some r := H
  have A5 := Aside0.mk A50
  clear A50
  by_cases c6 : t358 = true
  · subst c6
    have H1 : (if (a2.size : Int) > 1000 then (sprlaw20_MayKinds.j0 k a0 a1 a2 a3 true) else (if (a3.size : Int) > 1000 then (sprlaw20_MayKinds.j0 k a0 a1 a2 a3 true) else (if a1 < 200 then (sprlaw20_MayKinds.j0 k a0 a1 a2 a3 true) else (if a1 > 599 then (sprlaw20_MayKinds.j0 k a0 a1 a2 a3 true) else (if a1 = 206 then (sprlaw20_MayKinds.j0 k a0 a1 a2 a3 true) else (sprlaw20_MayKinds.j0 k a0 a1 a2 a3 (a1 == 304))))))) = some r := by rw [if_pos rfl] at H; exact H
    clear H
    have H := H1
    clear H1
    have HC7 := Aside0.mk H
    clear H
    go_enter Tryd.func5, Tryd.ntmps5
    go_upto_region 3 with (first | ((with_reducible refine gate_callee (f := 6) rfl ?_); refine goesL_ (some 14) rfl rfl Tryd.func6 (by kernel_rfl) rfl #[] rfl (by (try simp only [List.map_toArray, List.map_cons, List.map_nil]); first | done | rfl | (simp only [List.length_drop, List.length_take]; rfl)) ?_; (with_reducible refine (sprlaw20_first.calls k  true _ A5.out).mono ?_); rintro e w8 ⟨rfl, hb⟩; refine ⟨_, rfl, ?_⟩; have n0_ := Aside0.mk (below_step (by repeat (first | (with_reducible first | exact HB.out | apply below_alloc | apply pw_below_drewN | apply below_drew1) | exact HB.out)) hb); clear HB; have HB := n0_; clear n0_; (try clear hb); (try clear hb2); (try clear hk); (try clear hi)))
    (try simp only [Act.put, List.setIfInBounds_toArray, List.set_cons_zero, List.set_cons_succ])
    go_cut [39] (fun v39 wc => ∃ (kq : Nat) (x39_6 : Bool), v39 = .bool x39_6 ∧ Aside0 (sprlaw20_MayKinds.j0 kq a0 a1 a2 a3 x39_6 = some r) ∧ Aside0 (kq ≤ k) ∧ Aside0 (Below w.heap.size w wc))
    case first =>
      have H := HC7.out
      clear HC7
      by_cases c9 : (a2.size : Int) > 1000
      · rw [if_pos c9] at H
        have c9b0 : decide (1000 < (a2.size : Int)) = true := decide_eq_true c9
        have c9b1 : decide (1000 < a2.size) = true := decide_eq_true (by omega)
        clear c9
        (first | rw [c9b0] | (simp only [i64_w, i32_w]; rw [c9b0]) | skip)
        have H' := Aside0.mk H
        clear H
        go_wp2
        go_meet
        case rel => exact ⟨_, (true), (by first | rfl | (simp; done) | (simp [*]; done)), H', ⟨by first | omega | exact Nat.le_refl _⟩, ⟨by repeat (first | (with_reducible first | exact HB.out | apply below_alloc | apply pw_below_drewN | apply below_drew1) | exact HB.out)⟩⟩
      · rw [if_neg c9] at H
        have c9b0 : decide (1000 < (a2.size : Int)) = false := decide_eq_false c9
        have c9b1 : decide (1000 < a2.size) = false := decide_eq_false (by omega)
        clear c9
        (first | rw [c9b0] | (simp only [i64_w, i32_w]; rw [c9b0]) | skip)
        by_cases c10 : (a3.size : Int) > 1000
        · rw [if_pos c10] at H
          have c10b0 : decide (1000 < (a3.size : Int)) = true := decide_eq_true c10
          have c10b1 : decide (1000 < a3.size) = true := decide_eq_true (by omega)
          clear c10
          have H' := Aside0.mk H
          clear H
          go_wp2
          go_meet
          case rel => exact ⟨_, (true), (by first | rfl | (simp; done) | (simp [*]; done)), H', ⟨by first | omega | exact Nat.le_refl _⟩, ⟨by repeat (first | (with_reducible first | exact HB.out | apply below_alloc | apply pw_below_drewN | apply below_drew1) | exact HB.out)⟩⟩
        · rw [if_neg c10] at H
          have c10b0 : decide (1000 < (a3.size : Int)) = false := decide_eq_false c10
          have c10b1 : decide (1000 < a3.size) = false := decide_eq_false (by omega)
          clear c10
          by_cases c11 : a1 < 200
          · rw [if_pos c11] at H
            have c11b0 : decide (a1 < 200) = true := decide_eq_true c11
            clear c11
            have H' := Aside0.mk H
            clear H
            go_wp2
            go_meet
            case rel => exact ⟨_, (true), (by first | rfl | (simp; done) | (simp [*]; done)), H', ⟨by first | omega | exact Nat.le_refl _⟩, ⟨by repeat (first | (with_reducible first | exact HB.out | apply below_alloc | apply pw_below_drewN | apply below_drew1) | exact HB.out)⟩⟩
          · rw [if_neg c11] at H
            have c11b0 : decide (a1 < 200) = false := decide_eq_false c11
            clear c11
            by_cases c12 : a1 > 599
            · rw [if_pos c12] at H
              have c12b0 : decide (599 < a1) = true := decide_eq_true c12
              clear c12
              have H' := Aside0.mk H
              clear H
              go_wp2
              go_meet
              case rel => exact ⟨_, (true), (by first | rfl | (simp; done) | (simp [*]; done)), H', ⟨by first | omega | exact Nat.le_refl _⟩, ⟨by repeat (first | (with_reducible first | exact HB.out | apply below_alloc | apply pw_below_drewN | apply below_drew1) | exact HB.out)⟩⟩
            · rw [if_neg c12] at H
              have c12b0 : decide (599 < a1) = false := decide_eq_false c12
              clear c12
              by_cases c13 : a1 = 206
              · rw [if_pos c13] at H
                have c13b0 : (a1 == 206) = true := beq_iff_eq.mpr c13
                have c13b1 : (a1 != 206) = false := bne_eq_false_iff_eq.mpr c13
                clear c13
                have H' := Aside0.mk H
                clear H
                go_wp2
                go_meet
                case rel => exact ⟨_, (true), (by first | rfl | (simp; done) | (simp [*]; done)), H', ⟨by first | omega | exact Nat.le_refl _⟩, ⟨by repeat (first | (with_reducible first | exact HB.out | apply below_alloc | apply pw_below_drewN | apply below_drew1) | exact HB.out)⟩⟩
              · rw [if_neg c13] at H
                have c13b0 : (a1 == 206) = false := beq_eq_false_iff_ne.mpr c13
                have c13b1 : (a1 != 206) = true := bne_iff_ne.mpr c13
                have H' := Aside0.mk H
                clear H
                go_wp2
                go_meet
                case rel => exact ⟨_, ((a1 == 304)), (by first | rfl | (simp; done) | (simp [*]; done)), H', ⟨by first | omega | exact Nat.le_refl _⟩, ⟨by repeat (first | (with_reducible first | exact HB.out | apply below_alloc | apply pw_below_drewN | apply below_drew1) | exact HB.out)⟩⟩
    case rest =>
      clear HC7
      try clear c1
      try clear p2
      try clear c5
      try clear c6
      try clear c9
      try clear c9b0
      try clear c9b1
      try clear c10
      try clear c10b0
      try clear c10b1
      try clear c11
      try clear c11b0
      try clear c12
      try clear c12b0
      try clear c13
      try clear c13b0
      try clear c13b1
      obtain ⟨kq, x39_6, rfl, HA, HJ6, HB⟩ := hcut
      cases kq with
      | zero => exact absurd HA.out (by simp [sprlaw20_MayKinds.j0])
      | succ kj6 =>
        have H := HA.out
        clear HA
        simp only [sprlaw20_MayKinds.j0] at H
        by_cases c14 : x39_6 = true
        · subst c14
          have H1 : ((sprlaw20_first.f kj6).bind fun t359 => (some t359)) = some r := by rw [if_pos rfl] at H; exact H
          clear H
          have H := H1
          clear H1
          replace H := Option.bind_eq_some_iff.mp H
          obtain ⟨t359, A150, H⟩ := H
          replace H : (some t359) = some r := H
          have A15 := Aside0.mk A150
          clear A150
          obtain rfl := Option.some.inj H
          go_wp2_with (first | ((with_reducible refine gate_callee (f := 6) rfl ?_); refine goesL_ (some 40) rfl rfl Tryd.func6 (by kernel_rfl) rfl #[] rfl (by (try simp only [List.map_toArray, List.map_cons, List.map_nil]); first | done | rfl | (simp only [List.length_drop, List.length_take]; rfl)) ?_; (with_reducible refine (sprlaw20_first.calls kj6  t359 _ A15.out).mono ?_); rintro e w16 ⟨rfl, hb⟩; refine ⟨_, rfl, ?_⟩; have n0_ := Aside0.mk (below_step (by repeat (first | (with_reducible first | exact HB.out | apply below_alloc | apply pw_below_drewN | apply below_drew1) | exact HB.out)) hb); clear HB; have HB := n0_; clear n0_; (try clear hb); (try clear hb2); (try clear hk); (try clear hi)))
          go_ret
          exact ⟨by first | rfl | (simp [errW_none, errW_some] <;> rfl) | (simp [*, errW_none, errW_some] <;> rfl), by repeat (first | (with_reducible first | exact HB.out | apply below_alloc | apply pw_below_drewN | apply below_drew1) | exact HB.out)⟩
        · replace c14 := Bool.eq_false_iff.mpr c14
          subst c14
          have H1 : ((may_Store.f kj6 a0 a2 (⟨#[71, 69, 84]⟩ : ByteArray) a3 ([] : List (S42)) a1 ([] : List (S42)) ([] : List Int)).bind fun t361 => ((may_Store.f kj6 a0 a2 (⟨#[71, 69, 84]⟩ : ByteArray) a3 ([] : List (S42)) a1 (([(⟨(⟨#[67, 97, 99, 104, 101, 45, 67, 111, 110, 116, 114, 111, 108]⟩ : ByteArray), (⟨#[109, 97, 120, 45, 97, 103, 101, 61, 49]⟩ : ByteArray)⟩ : S42)] : List (S42))) ([] : List Int)).bind fun t365 => ((may_Store.f kj6 a0 a2 (⟨#[71, 69, 84]⟩ : ByteArray) a3 ([] : List (S42)) a1 (([(⟨(⟨#[67, 97, 99, 104, 101, 45, 67, 111, 110, 116, 114, 111, 108]⟩ : ByteArray), (⟨#[112, 117, 98, 108, 105, 99]⟩ : ByteArray)⟩ : S42), (⟨(⟨#[86, 97, 114, 121]⟩ : ByteArray), (⟨#[42]⟩ : ByteArray)⟩ : S42)] : List (S42))) ([] : List Int)).bind fun t369 => ((may_Store.f kj6 a0 a2 (⟨#[71, 69, 84]⟩ : ByteArray) a3 ([] : List (S42)) a1 (([(⟨(⟨#[67, 97, 99, 104, 101, 45, 67, 111, 110, 116, 114, 111, 108]⟩ : ByteArray), (⟨#[109, 97, 120, 45, 97, 103, 101, 61, 49, 44, 32, 109, 117, 115, 116, 45, 117, 110, 100, 101, 114, 115, 116, 97, 110, 100]⟩ : ByteArray)⟩ : S42)] : List (S42))) ([] : List Int)).bind fun t373 => ((sprlaw20_first.f kj6).bind fun t374 => (if t374 = true then ((age_Usual.f a1).bind fun t375 => (if ((t361 == 0) == t375) = true then (if t365 = 0 then (if t369 = 6 then (some ((t373 == 0) == t375)) else (some false)) else (some false)) else (some false))) else (some false))))))) = some r := by rw [if_neg (show ¬ (false = true) by decide)] at H; exact H
          clear H
          have H := H1
          clear H1
          replace H := Option.bind_eq_some_iff.mp H
          obtain ⟨t361, A170, H⟩ := H
          replace H : ((may_Store.f kj6 a0 a2 (⟨#[71, 69, 84]⟩ : ByteArray) a3 ([] : List (S42)) a1 (([(⟨(⟨#[67, 97, 99, 104, 101, 45, 67, 111, 110, 116, 114, 111, 108]⟩ : ByteArray), (⟨#[109, 97, 120, 45, 97, 103, 101, 61, 49]⟩ : ByteArray)⟩ : S42)] : List (S42))) ([] : List Int)).bind fun t365 => ((may_Store.f kj6 a0 a2 (⟨#[71, 69, 84]⟩ : ByteArray) a3 ([] : List (S42)) a1 (([(⟨(⟨#[67, 97, 99, 104, 101, 45, 67, 111, 110, 116, 114, 111, 108]⟩ : ByteArray), (⟨#[112, 117, 98, 108, 105, 99]⟩ : ByteArray)⟩ : S42), (⟨(⟨#[86, 97, 114, 121]⟩ : ByteArray), (⟨#[42]⟩ : ByteArray)⟩ : S42)] : List (S42))) ([] : List Int)).bind fun t369 => ((may_Store.f kj6 a0 a2 (⟨#[71, 69, 84]⟩ : ByteArray) a3 ([] : List (S42)) a1 (([(⟨(⟨#[67, 97, 99, 104, 101, 45, 67, 111, 110, 116, 114, 111, 108]⟩ : ByteArray), (⟨#[109, 97, 120, 45, 97, 103, 101, 61, 49, 44, 32, 109, 117, 115, 116, 45, 117, 110, 100, 101, 114, 115, 116, 97, 110, 100]⟩ : ByteArray)⟩ : S42)] : List (S42))) ([] : List Int)).bind fun t373 => ((sprlaw20_first.f kj6).bind fun t374 => (if t374 = true then ((age_Usual.f a1).bind fun t375 => (if ((t361 == 0) == t375) = true then (if t365 = 0 then (if t369 = 6 then (some ((t373 == 0) == t375)) else (some false)) else (some false)) else (some false))) else (some false)))))) = some r := H
          have A17 := Aside0.mk A170
          clear A170
          obtain ⟨y362, hy362⟩ : ∃ y_ : List (S42), y_ = (([(⟨(⟨#[67, 97, 99, 104, 101, 45, 67, 111, 110, 116, 114, 111, 108]⟩ : ByteArray), (⟨#[109, 97, 120, 45, 97, 103, 101, 61, 49]⟩ : ByteArray)⟩ : S42)] : List (S42))) := ⟨_, rfl⟩
          replace H : ((may_Store.f kj6 a0 a2 (⟨#[71, 69, 84]⟩ : ByteArray) a3 ([] : List (S42)) a1 y362 ([] : List Int)).bind fun t365 => ((may_Store.f kj6 a0 a2 (⟨#[71, 69, 84]⟩ : ByteArray) a3 ([] : List (S42)) a1 (([(⟨(⟨#[67, 97, 99, 104, 101, 45, 67, 111, 110, 116, 114, 111, 108]⟩ : ByteArray), (⟨#[112, 117, 98, 108, 105, 99]⟩ : ByteArray)⟩ : S42), (⟨(⟨#[86, 97, 114, 121]⟩ : ByteArray), (⟨#[42]⟩ : ByteArray)⟩ : S42)] : List (S42))) ([] : List Int)).bind fun t369 => ((may_Store.f kj6 a0 a2 (⟨#[71, 69, 84]⟩ : ByteArray) a3 ([] : List (S42)) a1 (([(⟨(⟨#[67, 97, 99, 104, 101, 45, 67, 111, 110, 116, 114, 111, 108]⟩ : ByteArray), (⟨#[109, 97, 120, 45, 97, 103, 101, 61, 49, 44, 32, 109, 117, 115, 116, 45, 117, 110, 100, 101, 114, 115, 116, 97, 110, 100]⟩ : ByteArray)⟩ : S42)] : List (S42))) ([] : List Int)).bind fun t373 => ((sprlaw20_first.f kj6).bind fun t374 => (if t374 = true then ((age_Usual.f a1).bind fun t375 => (if ((t361 == 0) == t375) = true then (if t365 = 0 then (if t369 = 6 then (some ((t373 == 0) == t375)) else (some false)) else (some false)) else (some false))) else (some false)))))) = some r := by first | (rw [hy362]; with_reducible exact H) | (have H2_ := (Option.bind_some _ _).symm.trans H; rw [hy362]; with_reducible exact H2_) | (have H2_ := (Option.bind_some _ _).symm.trans H; with_reducible exact H2_) | with_reducible exact H | (rw [hy362]; exact H) | exact H
          have Ny362 := Aside0.mk hy362
          clear hy362
          replace H := Option.bind_eq_some_iff.mp H
          obtain ⟨t365, A180, H⟩ := H
          replace H : ((may_Store.f kj6 a0 a2 (⟨#[71, 69, 84]⟩ : ByteArray) a3 ([] : List (S42)) a1 (([(⟨(⟨#[67, 97, 99, 104, 101, 45, 67, 111, 110, 116, 114, 111, 108]⟩ : ByteArray), (⟨#[112, 117, 98, 108, 105, 99]⟩ : ByteArray)⟩ : S42), (⟨(⟨#[86, 97, 114, 121]⟩ : ByteArray), (⟨#[42]⟩ : ByteArray)⟩ : S42)] : List (S42))) ([] : List Int)).bind fun t369 => ((may_Store.f kj6 a0 a2 (⟨#[71, 69, 84]⟩ : ByteArray) a3 ([] : List (S42)) a1 (([(⟨(⟨#[67, 97, 99, 104, 101, 45, 67, 111, 110, 116, 114, 111, 108]⟩ : ByteArray), (⟨#[109, 97, 120, 45, 97, 103, 101, 61, 49, 44, 32, 109, 117, 115, 116, 45, 117, 110, 100, 101, 114, 115, 116, 97, 110, 100]⟩ : ByteArray)⟩ : S42)] : List (S42))) ([] : List Int)).bind fun t373 => ((sprlaw20_first.f kj6).bind fun t374 => (if t374 = true then ((age_Usual.f a1).bind fun t375 => (if ((t361 == 0) == t375) = true then (if t365 = 0 then (if t369 = 6 then (some ((t373 == 0) == t375)) else (some false)) else (some false)) else (some false))) else (some false))))) = some r := H
          have A18 := Aside0.mk A180
          clear A180
          obtain ⟨y366, hy366⟩ : ∃ y_ : List (S42), y_ = (([(⟨(⟨#[67, 97, 99, 104, 101, 45, 67, 111, 110, 116, 114, 111, 108]⟩ : ByteArray), (⟨#[112, 117, 98, 108, 105, 99]⟩ : ByteArray)⟩ : S42), (⟨(⟨#[86, 97, 114, 121]⟩ : ByteArray), (⟨#[42]⟩ : ByteArray)⟩ : S42)] : List (S42))) := ⟨_, rfl⟩
          replace H : ((may_Store.f kj6 a0 a2 (⟨#[71, 69, 84]⟩ : ByteArray) a3 ([] : List (S42)) a1 y366 ([] : List Int)).bind fun t369 => ((may_Store.f kj6 a0 a2 (⟨#[71, 69, 84]⟩ : ByteArray) a3 ([] : List (S42)) a1 (([(⟨(⟨#[67, 97, 99, 104, 101, 45, 67, 111, 110, 116, 114, 111, 108]⟩ : ByteArray), (⟨#[109, 97, 120, 45, 97, 103, 101, 61, 49, 44, 32, 109, 117, 115, 116, 45, 117, 110, 100, 101, 114, 115, 116, 97, 110, 100]⟩ : ByteArray)⟩ : S42)] : List (S42))) ([] : List Int)).bind fun t373 => ((sprlaw20_first.f kj6).bind fun t374 => (if t374 = true then ((age_Usual.f a1).bind fun t375 => (if ((t361 == 0) == t375) = true then (if t365 = 0 then (if t369 = 6 then (some ((t373 == 0) == t375)) else (some false)) else (some false)) else (some false))) else (some false))))) = some r := by first | (rw [hy366]; with_reducible exact H) | (have H2_ := (Option.bind_some _ _).symm.trans H; rw [hy366]; with_reducible exact H2_) | (have H2_ := (Option.bind_some _ _).symm.trans H; with_reducible exact H2_) | with_reducible exact H | (rw [hy366]; exact H) | exact H
          have Ny366 := Aside0.mk hy366
          clear hy366
          replace H := Option.bind_eq_some_iff.mp H
          obtain ⟨t369, A190, H⟩ := H
          replace H : ((may_Store.f kj6 a0 a2 (⟨#[71, 69, 84]⟩ : ByteArray) a3 ([] : List (S42)) a1 (([(⟨(⟨#[67, 97, 99, 104, 101, 45, 67, 111, 110, 116, 114, 111, 108]⟩ : ByteArray), (⟨#[109, 97, 120, 45, 97, 103, 101, 61, 49, 44, 32, 109, 117, 115, 116, 45, 117, 110, 100, 101, 114, 115, 116, 97, 110, 100]⟩ : ByteArray)⟩ : S42)] : List (S42))) ([] : List Int)).bind fun t373 => ((sprlaw20_first.f kj6).bind fun t374 => (if t374 = true then ((age_Usual.f a1).bind fun t375 => (if ((t361 == 0) == t375) = true then (if t365 = 0 then (if t369 = 6 then (some ((t373 == 0) == t375)) else (some false)) else (some false)) else (some false))) else (some false)))) = some r := H
          have A19 := Aside0.mk A190
          clear A190
          obtain ⟨y370, hy370⟩ : ∃ y_ : List (S42), y_ = (([(⟨(⟨#[67, 97, 99, 104, 101, 45, 67, 111, 110, 116, 114, 111, 108]⟩ : ByteArray), (⟨#[109, 97, 120, 45, 97, 103, 101, 61, 49, 44, 32, 109, 117, 115, 116, 45, 117, 110, 100, 101, 114, 115, 116, 97, 110, 100]⟩ : ByteArray)⟩ : S42)] : List (S42))) := ⟨_, rfl⟩
          replace H : ((may_Store.f kj6 a0 a2 (⟨#[71, 69, 84]⟩ : ByteArray) a3 ([] : List (S42)) a1 y370 ([] : List Int)).bind fun t373 => ((sprlaw20_first.f kj6).bind fun t374 => (if t374 = true then ((age_Usual.f a1).bind fun t375 => (if ((t361 == 0) == t375) = true then (if t365 = 0 then (if t369 = 6 then (some ((t373 == 0) == t375)) else (some false)) else (some false)) else (some false))) else (some false)))) = some r := by first | (rw [hy370]; with_reducible exact H) | (have H2_ := (Option.bind_some _ _).symm.trans H; rw [hy370]; with_reducible exact H2_) | (have H2_ := (Option.bind_some _ _).symm.trans H; with_reducible exact H2_) | with_reducible exact H | (rw [hy370]; exact H) | exact H
          have Ny370 := Aside0.mk hy370
          clear hy370
          replace H := Option.bind_eq_some_iff.mp H
          obtain ⟨t373, A200, H⟩ := H
          replace H : ((sprlaw20_first.f kj6).bind fun t374 => (if t374 = true then ((age_Usual.f a1).bind fun t375 => (if ((t361 == 0) == t375) = true then (if t365 = 0 then (if t369 = 6 then (some ((t373 == 0) == t375)) else (some false)) else (some false)) else (some false))) else (some false))) = some r := H
          have A20 := Aside0.mk A200
          clear A200
          replace H := Option.bind_eq_some_iff.mp H
          obtain ⟨t374, A210, H⟩ := H
          replace H : (if t374 = true then ((age_Usual.f a1).bind fun t375 => (if ((t361 == 0) == t375) = true then (if t365 = 0 then (if t369 = 6 then (some ((t373 == 0) == t375)) else (some false)) else (some false)) else (some false))) else (some false)) = some r := H
          have A21 := Aside0.mk A210
          clear A210
          by_cases c22 : t374 = true
          · subst c22
            have H1 : ((age_Usual.f a1).bind fun t375 => (if ((t361 == 0) == t375) = true then (if t365 = 0 then (if t369 = 6 then (some ((t373 == 0) == t375)) else (some false)) else (some false)) else (some false))) = some r := by rw [if_pos rfl] at H; exact H
            clear H
            have H := H1
            clear H1
            replace H := Option.bind_eq_some_iff.mp H
            obtain ⟨t375, A230, H⟩ := H
            replace H : (if ((t361 == 0) == t375) = true then (if t365 = 0 then (if t369 = 6 then (some ((t373 == 0) == t375)) else (some false)) else (some false)) else (some false)) = some r := H
            have A23 := Aside0.mk A230
            clear A230
            by_cases c24 : ((t361 == 0) == t375) = true
            · rw [if_pos c24] at H
              have c24b0 : ((t361 == 0) == t375) = true := c24
              (try (have c24b1 : decide ((t361 == 0) = t375) = true := by simpa using c24))
              (try (have c24b2 : ((t361 == 0) == t375) = true := by simpa using c24))
              clear c24
              by_cases c25 : t365 = 0
              · rw [if_pos c25] at H
                have c25b0 : (t365 == 0) = true := beq_iff_eq.mpr c25
                have c25b1 : (t365 != 0) = false := bne_eq_false_iff_eq.mpr c25
                clear c25
                by_cases c26 : t369 = 6
                · rw [if_pos c26] at H
                  have c26b0 : (t369 == 6) = true := beq_iff_eq.mpr c26
                  have c26b1 : (t369 != 6) = false := bne_eq_false_iff_eq.mpr c26
                  clear c26
                  obtain rfl := Option.some.inj H
                  go_wp2_with (first | ((with_reducible refine gate_dst (N := 9) rfl ?_); (try (refine gate_guard (by rfl) ?_; dsimp only)); refine box_event ?hg (N := 9) ?hd (cs := #[.string (⟨#[]⟩ : ByteArray), .string (⟨#[]⟩ : ByteArray), .string (⟨#[]⟩ : ByteArray), .slice none 0 0]) (t := 24) ?hr ?_; (case hd => rfl); (case hg => rfl); (case hr => first | (go_simp; done) | (go_simp; rfl)); intro gb360 hg w27 hbox hb; have n0_ := Aside0.mk (below_step (by repeat (first | (with_reducible first | exact HB.out | apply below_alloc | apply pw_below_drewN | apply below_drew1) | exact HB.out)) hb); have n1_ := Aside0.mk (hbox); have n2_ := Aside0.mk ((by rw [hg]; exact (below_size (by repeat (first | (with_reducible first | exact HB.out | apply below_alloc | apply pw_below_drewN | apply below_drew1) | exact HB.out))) : w.heap.size ≤ gb360)); have n3_ := Aside0.mk ((by rw [hg]; exact (below_size (by repeat (first | (with_reducible first | exact HB.out | apply below_alloc | apply pw_below_drewN | apply below_drew1) | exact HB.out))) : w.heap.size ≤ gb360)); clear HB; have HB := n0_; have BK360 := n1_; have GW360 := n2_; have GE360 := n3_; clear n0_ n1_ n2_ n3_; clear hb hbox hg; have hcz28_0 : w27.cell? ⟨gb360, 0, none⟩ = some (.string (⟨#[]⟩ : ByteArray)) := (blk_cell BK360.out 0).trans rfl; have hcz28_1 : w27.cell? ⟨gb360, 1, none⟩ = some (.string (⟨#[]⟩ : ByteArray)) := (blk_cell BK360.out 1).trans rfl; have hcz28_2 : w27.cell? ⟨gb360, 2, none⟩ = some (.string (⟨#[]⟩ : ByteArray)) := (blk_cell BK360.out 2).trans rfl; have hcz28_3 : w27.cell? ⟨gb360, 3, none⟩ = some (.slice none 0 0) := (blk_cell BK360.out 3).trans rfl; have hfz28_0 := blk_frozen BK360.out 0; have hfz28_1 := blk_frozen BK360.out 1; have hfz28_2 := blk_frozen BK360.out 2; have hfz28_3 := blk_frozen BK360.out 3) | ((with_reducible refine gate_callee (f := 9) rfl ?_); refine goesL_ (some 48) rfl rfl Tryd.func9 (by kernel_rfl) rfl #[.bool a0, .agg #[.string a2, .string (⟨#[71, 69, 84]⟩ : ByteArray), .string a3, .slice none 0 0], .agg #[.int .i64 a1, .slice none 0 0, .slice none 0 0]] rfl (by (try simp only [List.map_toArray, List.map_cons, List.map_nil]); first | done | rfl | (simp only [List.length_drop, List.length_take]; rfl)) ?_; (refine (may_Store.calls kj6 a0 a2 (⟨#[71, 69, 84]⟩ : ByteArray) a3 _ _ ([] : List (S42)) a1 _ _ ([] : List (S42)) _ _ ([] : List Int) t361 _ ?side1 ?side2 ?side3 ?side4 ?side5 ?side6 A17.out).mono ?_); (case side1 => exact Kd.C_nil _ _); (case side2 => exact Nat.le_refl _); (case side3 => exact Kd.C_nil _ _); (case side4 => exact Nat.le_refl _); (case side5 => exact Kd.C_nil _ _); (case side6 => exact Nat.le_refl _); rintro e w29 ⟨rfl, hb⟩; refine ⟨_, rfl, ?_⟩; have n0_ := Aside0.mk (blk_below (g := gb360) (o := .cells #[.string a2, .string (⟨#[71, 69, 84]⟩ : ByteArray), .string a3, .slice none 0 0] 24 (0, 0)) (by (with_reducible repeat (first | refine blk_drewN ?_ _ | refine blk_drew ?_ | refine blk_alloc ?_ _)); refine blk_put (cs := #[.string a2, .string (⟨#[71, 69, 84]⟩ : ByteArray), .string a3, .slice none 0 0]) ?_ 3 _ rfl; (with_reducible repeat (first | refine blk_drewN ?_ _ | refine blk_drew ?_ | refine blk_alloc ?_ _)); refine blk_put (cs := #[.string a2, .string (⟨#[71, 69, 84]⟩ : ByteArray), .string (⟨#[]⟩ : ByteArray), .slice none 0 0]) ?_ 2 _ rfl; (with_reducible repeat (first | refine blk_drewN ?_ _ | refine blk_drew ?_ | refine blk_alloc ?_ _)); refine blk_put (cs := #[.string a2, .string (⟨#[]⟩ : ByteArray), .string (⟨#[]⟩ : ByteArray), .slice none 0 0]) ?_ 1 _ rfl; (with_reducible repeat (first | refine blk_drewN ?_ _ | refine blk_drew ?_ | refine blk_alloc ?_ _)); refine blk_put (cs := #[.string (⟨#[]⟩ : ByteArray), .string (⟨#[]⟩ : ByteArray), .string (⟨#[]⟩ : ByteArray), .slice none 0 0]) ?_ 0 _ rfl; (with_reducible repeat (first | refine blk_drewN ?_ _ | refine blk_drew ?_ | refine blk_alloc ?_ _)); exact BK360.out) hb); have n1_ := Aside0.mk (below_step (by repeat (first | (with_reducible first | exact HB.out | apply below_alloc | apply pw_below_drewN | apply below_drew1 | refine below_set ?_ GE360.out) | exact HB.out)) hb); clear BK360; clear HB; have BK360 := n0_; have HB := n1_; clear n0_ n1_; (try clear hb); (try clear hb2); (try clear hk); (try clear hi); have hcz30_0 : w29.cell? ⟨gb360, 0, none⟩ = some (.string a2) := (blk_cell BK360.out 0).trans rfl; have hcz30_1 : w29.cell? ⟨gb360, 1, none⟩ = some (.string (⟨#[71, 69, 84]⟩ : ByteArray)) := (blk_cell BK360.out 1).trans rfl; have hcz30_2 : w29.cell? ⟨gb360, 2, none⟩ = some (.string a3) := (blk_cell BK360.out 2).trans rfl; have hcz30_3 : w29.cell? ⟨gb360, 3, none⟩ = some (.slice none 0 0) := (blk_cell BK360.out 3).trans rfl; have hfz30_0 := blk_frozen BK360.out 0; have hfz30_1 := blk_frozen BK360.out 1; have hfz30_2 := blk_frozen BK360.out 2; have hfz30_3 := blk_frozen BK360.out 3) | ((with_reducible refine gate_dst (N := 53) rfl ?_); (try (refine gate_guard (by rfl) ?_; dsimp only)); refine Kd.R_lit k42 _ 42 ?hg (N := 53) ?hd (xs := ([(⟨(⟨#[67, 97, 99, 104, 101, 45, 67, 111, 110, 116, 114, 111, 108]⟩ : ByteArray), (⟨#[109, 97, 120, 45, 97, 103, 101, 61, 49]⟩ : ByteArray)⟩ : S42)] : List (S42))) (inner := [.string (⟨#[67, 97, 99, 104, 101, 45, 67, 111, 110, 116, 114, 111, 108]⟩ : ByteArray), .string (⟨#[109, 97, 120, 45, 97, 103, 101, 61, 49]⟩ : ByteArray)]) (ok := fun _ => True) (okp := fun _ => True) ?hr ?hp (fun _ hk => hk) trivial (Below.refl _ _) (Nat.le_refl _) (by simp) ?_; (case hd => rfl); (case hg => rfl); (case hr => first | (go_simp; done) | (go_simp; rfl)); (case hp => exact (Reps.c2 (show Kd.M k42 _ _ _ (⟨(⟨#[67, 97, 99, 104, 101, 45, 67, 111, 110, 116, 114, 111, 108]⟩ : ByteArray), (⟨#[109, 97, 120, 45, 97, 103, 101, 61, 49]⟩ : ByteArray)⟩ : S42) [.string (⟨#[67, 97, 99, 104, 101, 45, 67, 111, 110, 116, 114, 111, 108]⟩ : ByteArray), .string (⟨#[109, 97, 120, 45, 97, 103, 101, 61, 49]⟩ : ByteArray)] from (k42_mkM _ _ _ (⟨(⟨#[67, 97, 99, 104, 101, 45, 67, 111, 110, 116, 114, 111, 108]⟩ : ByteArray), (⟨#[109, 97, 120, 45, 97, 103, 101, 61, 49]⟩ : ByteArray)⟩ : S42) )) (Reps.none _ _))); intro v363 w31 ho32 hb hg_ hnew_; clear hg_ hnew_; (first | rw [← Ny362.out] at ho32 | (simp only [Int.reduceToNat] at ho32; rw [← Ny362.out] at ho32)); have n0_ := Aside0.mk (Kd.R_lower ho32 (below_size (by repeat (first | (with_reducible first | exact HB.out | apply below_alloc | apply pw_below_drewN | apply below_drew1 | refine below_set ?_ GE360.out) | exact HB.out)))); have n1_ := Aside0.mk (blk_below (g := gb360) (o := .cells #[.string a2, .string (⟨#[71, 69, 84]⟩ : ByteArray), .string a3, .slice none 0 0] 24 (0, 0)) (by (with_reducible repeat (first | refine blk_drewN ?_ _ | refine blk_drew ?_ | refine blk_alloc ?_ _)); exact BK360.out) hb); have n2_ := Aside0.mk (below_step (by repeat (first | (with_reducible first | exact HB.out | apply below_alloc | apply pw_below_drewN | apply below_drew1 | refine below_set ?_ GE360.out) | exact HB.out)) hb); clear BK360; clear HB; have HO364 := n0_; have BK360 := n1_; have HB := n2_; clear n0_ n1_ n2_; clear hb ho32; obtain ⟨Ao33, co33, eo33⟩ := Kd.R_slice HO364.out; subst eo33) | ((with_reducible refine gate_callee (f := 9) rfl ?_); refine goesL_ (some 55) rfl rfl Tryd.func9 (by kernel_rfl) rfl #[.bool a0, .agg #[.string a2, .string (⟨#[71, 69, 84]⟩ : ByteArray), .string a3, .slice none 0 0], .agg #[.int .i64 a1, .slice Ao33 y362.length co33, .slice none 0 0]] rfl (by (try simp only [List.map_toArray, List.map_cons, List.map_nil]); first | done | rfl | (simp only [List.length_drop, List.length_take]; rfl)) ?_; (refine (may_Store.calls kj6 a0 a2 (⟨#[71, 69, 84]⟩ : ByteArray) a3 _ _ ([] : List (S42)) a1 _ _ y362 _ _ ([] : List Int) t365 _ ?side1 ?side2 ?side3 ?side4 ?side5 ?side6 A18.out).mono ?_); (case side1 => exact Kd.C_nil _ _); (case side2 => exact Nat.le_refl _); (case side3 => repeat (first | exact (Kd.R_reads' HO364.out).2.2 | (with_reducible refine Kd.C_alloc ?_ _) | (with_reducible refine Kd.C_drewN ?_ _) | (with_reducible refine Kd.C_drew ?_))); (case side4 => exact (Kd.R_reads' HO364.out).2.1); (case side5 => exact Kd.C_nil _ _); (case side6 => exact Nat.le_refl _); rintro e w34 ⟨rfl, hb⟩; refine ⟨_, rfl, ?_⟩; have n0_ := Aside0.mk (Kd.R_below (by (with_reducible repeat (first | apply Kd.R_alloc | apply Kd.R_drewN | apply Kd.R_drew)); exact HO364.out) hb); have n1_ := Aside0.mk (blk_below (g := gb360) (o := .cells #[.string a2, .string (⟨#[71, 69, 84]⟩ : ByteArray), .string a3, .slice none 0 0] 24 (0, 0)) (by (with_reducible repeat (first | refine blk_drewN ?_ _ | refine blk_drew ?_ | refine blk_alloc ?_ _)); exact BK360.out) hb); have n2_ := Aside0.mk (below_step (by repeat (first | (with_reducible first | exact HB.out | apply below_alloc | apply pw_below_drewN | apply below_drew1 | refine below_set ?_ GE360.out) | exact HB.out)) hb); clear HO364; clear BK360; clear HB; have HO364 := n0_; have BK360 := n1_; have HB := n2_; clear n0_ n1_ n2_; (try clear hb); (try clear hb2); (try clear hk); (try clear hi); have hcz35_0 : w34.cell? ⟨gb360, 0, none⟩ = some (.string a2) := (blk_cell BK360.out 0).trans rfl; have hcz35_1 : w34.cell? ⟨gb360, 1, none⟩ = some (.string (⟨#[71, 69, 84]⟩ : ByteArray)) := (blk_cell BK360.out 1).trans rfl; have hcz35_2 : w34.cell? ⟨gb360, 2, none⟩ = some (.string a3) := (blk_cell BK360.out 2).trans rfl; have hcz35_3 : w34.cell? ⟨gb360, 3, none⟩ = some (.slice none 0 0) := (blk_cell BK360.out 3).trans rfl; have hfz35_0 := blk_frozen BK360.out 0; have hfz35_1 := blk_frozen BK360.out 1; have hfz35_2 := blk_frozen BK360.out 2; have hfz35_3 := blk_frozen BK360.out 3) | ((with_reducible refine gate_dst (N := 61) rfl ?_); (try (refine gate_guard (by rfl) ?_; dsimp only)); refine Kd.R_lit k42 _ 42 ?hg (N := 61) ?hd (xs := ([(⟨(⟨#[67, 97, 99, 104, 101, 45, 67, 111, 110, 116, 114, 111, 108]⟩ : ByteArray), (⟨#[112, 117, 98, 108, 105, 99]⟩ : ByteArray)⟩ : S42), (⟨(⟨#[86, 97, 114, 121]⟩ : ByteArray), (⟨#[42]⟩ : ByteArray)⟩ : S42)] : List (S42))) (inner := [.string (⟨#[67, 97, 99, 104, 101, 45, 67, 111, 110, 116, 114, 111, 108]⟩ : ByteArray), .string (⟨#[112, 117, 98, 108, 105, 99]⟩ : ByteArray), .string (⟨#[86, 97, 114, 121]⟩ : ByteArray), .string (⟨#[42]⟩ : ByteArray)]) (ok := fun _ => True) (okp := fun _ => True) ?hr ?hp (fun _ hk => hk) trivial (Below.refl _ _) (Nat.le_refl _) (by simp) ?_; (case hd => rfl); (case hg => rfl); (case hr => first | (go_simp; done) | (go_simp; rfl)); (case hp => exact (Reps.c2 (show Kd.M k42 _ _ _ (⟨(⟨#[67, 97, 99, 104, 101, 45, 67, 111, 110, 116, 114, 111, 108]⟩ : ByteArray), (⟨#[112, 117, 98, 108, 105, 99]⟩ : ByteArray)⟩ : S42) [.string (⟨#[67, 97, 99, 104, 101, 45, 67, 111, 110, 116, 114, 111, 108]⟩ : ByteArray), .string (⟨#[112, 117, 98, 108, 105, 99]⟩ : ByteArray)] from (k42_mkM _ _ _ (⟨(⟨#[67, 97, 99, 104, 101, 45, 67, 111, 110, 116, 114, 111, 108]⟩ : ByteArray), (⟨#[112, 117, 98, 108, 105, 99]⟩ : ByteArray)⟩ : S42) )) (Reps.c2 (show Kd.M k42 _ _ _ (⟨(⟨#[86, 97, 114, 121]⟩ : ByteArray), (⟨#[42]⟩ : ByteArray)⟩ : S42) [.string (⟨#[86, 97, 114, 121]⟩ : ByteArray), .string (⟨#[42]⟩ : ByteArray)] from (k42_mkM _ _ _ (⟨(⟨#[86, 97, 114, 121]⟩ : ByteArray), (⟨#[42]⟩ : ByteArray)⟩ : S42) )) (Reps.none _ _)))); intro v367 w36 ho37 hb hg_ hnew_; clear hg_ hnew_; (first | rw [← Ny366.out] at ho37 | (simp only [Int.reduceToNat] at ho37; rw [← Ny366.out] at ho37)); have n0_ := Aside0.mk (Kd.R_elder' (by (with_reducible repeat (first | apply Kd.R_alloc | apply Kd.R_drewN | apply Kd.R_drew)); exact HO364.out) (Kd.R_base ho37) hb); have n1_ := Aside0.mk (Kd.R_lower (Kd.R_new' ho37 (Kd.R_lt (by (with_reducible repeat (first | apply Kd.R_alloc | apply Kd.R_drewN | apply Kd.R_drew)); exact HO364.out))) (below_size (by repeat (first | (with_reducible first | exact HB.out | apply below_alloc | apply pw_below_drewN | apply below_drew1 | refine below_set ?_ GE360.out) | exact HB.out)))); have n2_ := Aside0.mk (blk_below (g := gb360) (o := .cells #[.string a2, .string (⟨#[71, 69, 84]⟩ : ByteArray), .string a3, .slice none 0 0] 24 (0, 0)) (by (with_reducible repeat (first | refine blk_drewN ?_ _ | refine blk_drew ?_ | refine blk_alloc ?_ _)); exact BK360.out) hb); have n3_ := Aside0.mk (below_step (by repeat (first | (with_reducible first | exact HB.out | apply below_alloc | apply pw_below_drewN | apply below_drew1 | refine below_set ?_ GE360.out) | exact HB.out)) hb); clear HO364; clear BK360; clear HB; have HO364 := n0_; have HO368 := n1_; have BK360 := n2_; have HB := n3_; clear n0_ n1_ n2_ n3_; clear hb ho37; obtain ⟨Ao38, co38, eo38⟩ := Kd.R_slice HO368.out; subst eo38) | ((with_reducible refine gate_callee (f := 9) rfl ?_); refine goesL_ (some 63) rfl rfl Tryd.func9 (by kernel_rfl) rfl #[.bool a0, .agg #[.string a2, .string (⟨#[71, 69, 84]⟩ : ByteArray), .string a3, .slice none 0 0], .agg #[.int .i64 a1, .slice Ao38 y366.length co38, .slice none 0 0]] rfl (by (try simp only [List.map_toArray, List.map_cons, List.map_nil]); first | done | rfl | (simp only [List.length_drop, List.length_take]; rfl)) ?_; (refine (may_Store.calls kj6 a0 a2 (⟨#[71, 69, 84]⟩ : ByteArray) a3 _ _ ([] : List (S42)) a1 _ _ y366 _ _ ([] : List Int) t369 _ ?side1 ?side2 ?side3 ?side4 ?side5 ?side6 A19.out).mono ?_); (case side1 => exact Kd.C_nil _ _); (case side2 => exact Nat.le_refl _); (case side3 => repeat (first | exact (Kd.R_reads' HO368.out).2.2 | (with_reducible refine Kd.C_alloc ?_ _) | (with_reducible refine Kd.C_drewN ?_ _) | (with_reducible refine Kd.C_drew ?_))); (case side4 => exact (Kd.R_reads' HO368.out).2.1); (case side5 => exact Kd.C_nil _ _); (case side6 => exact Nat.le_refl _); rintro e w39 ⟨rfl, hb⟩; refine ⟨_, rfl, ?_⟩; have n0_ := Aside0.mk (Kd.R_below (by (with_reducible repeat (first | apply Kd.R_alloc | apply Kd.R_drewN | apply Kd.R_drew)); exact HO364.out) hb); have n1_ := Aside0.mk (Kd.R_below (by (with_reducible repeat (first | apply Kd.R_alloc | apply Kd.R_drewN | apply Kd.R_drew)); exact HO368.out) hb); have n2_ := Aside0.mk (blk_below (g := gb360) (o := .cells #[.string a2, .string (⟨#[71, 69, 84]⟩ : ByteArray), .string a3, .slice none 0 0] 24 (0, 0)) (by (with_reducible repeat (first | refine blk_drewN ?_ _ | refine blk_drew ?_ | refine blk_alloc ?_ _)); exact BK360.out) hb); have n3_ := Aside0.mk (below_step (by repeat (first | (with_reducible first | exact HB.out | apply below_alloc | apply pw_below_drewN | apply below_drew1 | refine below_set ?_ GE360.out) | exact HB.out)) hb); clear HO364; clear HO368; clear BK360; clear HB; have HO364 := n0_; have HO368 := n1_; have BK360 := n2_; have HB := n3_; clear n0_ n1_ n2_ n3_; (try clear hb); (try clear hb2); (try clear hk); (try clear hi); have hcz40_0 : w39.cell? ⟨gb360, 0, none⟩ = some (.string a2) := (blk_cell BK360.out 0).trans rfl; have hcz40_1 : w39.cell? ⟨gb360, 1, none⟩ = some (.string (⟨#[71, 69, 84]⟩ : ByteArray)) := (blk_cell BK360.out 1).trans rfl; have hcz40_2 : w39.cell? ⟨gb360, 2, none⟩ = some (.string a3) := (blk_cell BK360.out 2).trans rfl; have hcz40_3 : w39.cell? ⟨gb360, 3, none⟩ = some (.slice none 0 0) := (blk_cell BK360.out 3).trans rfl; have hfz40_0 := blk_frozen BK360.out 0; have hfz40_1 := blk_frozen BK360.out 1; have hfz40_2 := blk_frozen BK360.out 2; have hfz40_3 := blk_frozen BK360.out 3) | ((with_reducible refine gate_dst (N := 68) rfl ?_); (try (refine gate_guard (by rfl) ?_; dsimp only)); refine Kd.R_lit k42 _ 42 ?hg (N := 68) ?hd (xs := ([(⟨(⟨#[67, 97, 99, 104, 101, 45, 67, 111, 110, 116, 114, 111, 108]⟩ : ByteArray), (⟨#[109, 97, 120, 45, 97, 103, 101, 61, 49, 44, 32, 109, 117, 115, 116, 45, 117, 110, 100, 101, 114, 115, 116, 97, 110, 100]⟩ : ByteArray)⟩ : S42)] : List (S42))) (inner := [.string (⟨#[67, 97, 99, 104, 101, 45, 67, 111, 110, 116, 114, 111, 108]⟩ : ByteArray), .string (⟨#[109, 97, 120, 45, 97, 103, 101, 61, 49, 44, 32, 109, 117, 115, 116, 45, 117, 110, 100, 101, 114, 115, 116, 97, 110, 100]⟩ : ByteArray)]) (ok := fun _ => True) (okp := fun _ => True) ?hr ?hp (fun _ hk => hk) trivial (Below.refl _ _) (Nat.le_refl _) (by simp) ?_; (case hd => rfl); (case hg => rfl); (case hr => first | (go_simp; done) | (go_simp; rfl)); (case hp => exact (Reps.c2 (show Kd.M k42 _ _ _ (⟨(⟨#[67, 97, 99, 104, 101, 45, 67, 111, 110, 116, 114, 111, 108]⟩ : ByteArray), (⟨#[109, 97, 120, 45, 97, 103, 101, 61, 49, 44, 32, 109, 117, 115, 116, 45, 117, 110, 100, 101, 114, 115, 116, 97, 110, 100]⟩ : ByteArray)⟩ : S42) [.string (⟨#[67, 97, 99, 104, 101, 45, 67, 111, 110, 116, 114, 111, 108]⟩ : ByteArray), .string (⟨#[109, 97, 120, 45, 97, 103, 101, 61, 49, 44, 32, 109, 117, 115, 116, 45, 117, 110, 100, 101, 114, 115, 116, 97, 110, 100]⟩ : ByteArray)] from (k42_mkM _ _ _ (⟨(⟨#[67, 97, 99, 104, 101, 45, 67, 111, 110, 116, 114, 111, 108]⟩ : ByteArray), (⟨#[109, 97, 120, 45, 97, 103, 101, 61, 49, 44, 32, 109, 117, 115, 116, 45, 117, 110, 100, 101, 114, 115, 116, 97, 110, 100]⟩ : ByteArray)⟩ : S42) )) (Reps.none _ _))); intro v371 w41 ho42 hb hg_ hnew_; clear hg_ hnew_; (first | rw [← Ny370.out] at ho42 | (simp only [Int.reduceToNat] at ho42; rw [← Ny370.out] at ho42)); have n0_ := Aside0.mk (Kd.R_elder' (by (with_reducible repeat (first | apply Kd.R_alloc | apply Kd.R_drewN | apply Kd.R_drew)); exact HO364.out) (Kd.R_base ho42) hb); have n1_ := Aside0.mk (Kd.R_elder' (by (with_reducible repeat (first | apply Kd.R_alloc | apply Kd.R_drewN | apply Kd.R_drew)); exact HO368.out) (Kd.R_base ho42) hb); have n2_ := Aside0.mk (Kd.R_lower (Kd.R_new' (Kd.R_new' ho42 (Kd.R_lt (by (with_reducible repeat (first | apply Kd.R_alloc | apply Kd.R_drewN | apply Kd.R_drew)); exact HO364.out))) (Kd.R_lt (by (with_reducible repeat (first | apply Kd.R_alloc | apply Kd.R_drewN | apply Kd.R_drew)); exact HO368.out))) (below_size (by repeat (first | (with_reducible first | exact HB.out | apply below_alloc | apply pw_below_drewN | apply below_drew1 | refine below_set ?_ GE360.out) | exact HB.out)))); have n3_ := Aside0.mk (blk_below (g := gb360) (o := .cells #[.string a2, .string (⟨#[71, 69, 84]⟩ : ByteArray), .string a3, .slice none 0 0] 24 (0, 0)) (by (with_reducible repeat (first | refine blk_drewN ?_ _ | refine blk_drew ?_ | refine blk_alloc ?_ _)); exact BK360.out) hb); have n4_ := Aside0.mk (below_step (by repeat (first | (with_reducible first | exact HB.out | apply below_alloc | apply pw_below_drewN | apply below_drew1 | refine below_set ?_ GE360.out) | exact HB.out)) hb); clear HO364; clear HO368; clear BK360; clear HB; have HO364 := n0_; have HO368 := n1_; have HO372 := n2_; have BK360 := n3_; have HB := n4_; clear n0_ n1_ n2_ n3_ n4_; clear hb ho42; obtain ⟨Ao43, co43, eo43⟩ := Kd.R_slice HO372.out; subst eo43) | ((with_reducible refine gate_callee (f := 9) rfl ?_); refine goesL_ (some 70) rfl rfl Tryd.func9 (by kernel_rfl) rfl #[.bool a0, .agg #[.string a2, .string (⟨#[71, 69, 84]⟩ : ByteArray), .string a3, .slice none 0 0], .agg #[.int .i64 a1, .slice Ao43 y370.length co43, .slice none 0 0]] rfl (by (try simp only [List.map_toArray, List.map_cons, List.map_nil]); first | done | rfl | (simp only [List.length_drop, List.length_take]; rfl)) ?_; (refine (may_Store.calls kj6 a0 a2 (⟨#[71, 69, 84]⟩ : ByteArray) a3 _ _ ([] : List (S42)) a1 _ _ y370 _ _ ([] : List Int) t373 _ ?side1 ?side2 ?side3 ?side4 ?side5 ?side6 A20.out).mono ?_); (case side1 => exact Kd.C_nil _ _); (case side2 => exact Nat.le_refl _); (case side3 => repeat (first | exact (Kd.R_reads' HO372.out).2.2 | (with_reducible refine Kd.C_alloc ?_ _) | (with_reducible refine Kd.C_drewN ?_ _) | (with_reducible refine Kd.C_drew ?_))); (case side4 => exact (Kd.R_reads' HO372.out).2.1); (case side5 => exact Kd.C_nil _ _); (case side6 => exact Nat.le_refl _); rintro e w44 ⟨rfl, hb⟩; refine ⟨_, rfl, ?_⟩; have n0_ := Aside0.mk (Kd.R_below (by (with_reducible repeat (first | apply Kd.R_alloc | apply Kd.R_drewN | apply Kd.R_drew)); exact HO364.out) hb); have n1_ := Aside0.mk (Kd.R_below (by (with_reducible repeat (first | apply Kd.R_alloc | apply Kd.R_drewN | apply Kd.R_drew)); exact HO368.out) hb); have n2_ := Aside0.mk (Kd.R_below (by (with_reducible repeat (first | apply Kd.R_alloc | apply Kd.R_drewN | apply Kd.R_drew)); exact HO372.out) hb); have n3_ := Aside0.mk (blk_below (g := gb360) (o := .cells #[.string a2, .string (⟨#[71, 69, 84]⟩ : ByteArray), .string a3, .slice none 0 0] 24 (0, 0)) (by (with_reducible repeat (first | refine blk_drewN ?_ _ | refine blk_drew ?_ | refine blk_alloc ?_ _)); exact BK360.out) hb); have n4_ := Aside0.mk (below_step (by repeat (first | (with_reducible first | exact HB.out | apply below_alloc | apply pw_below_drewN | apply below_drew1 | refine below_set ?_ GE360.out) | exact HB.out)) hb); clear HO364; clear HO368; clear HO372; clear BK360; clear HB; have HO364 := n0_; have HO368 := n1_; have HO372 := n2_; have BK360 := n3_; have HB := n4_; clear n0_ n1_ n2_ n3_ n4_; (try clear hb); (try clear hb2); (try clear hk); (try clear hi)) | ((with_reducible refine gate_callee (f := 6) rfl ?_); refine goesL_ (some 71) rfl rfl Tryd.func6 (by kernel_rfl) rfl #[] rfl (by (try simp only [List.map_toArray, List.map_cons, List.map_nil]); first | done | rfl | (simp only [List.length_drop, List.length_take]; rfl)) ?_; (with_reducible refine (sprlaw20_first.calls kj6  true _ A21.out).mono ?_); rintro e w45 ⟨rfl, hb⟩; refine ⟨_, rfl, ?_⟩; have n0_ := Aside0.mk (Kd.R_below (by (with_reducible repeat (first | apply Kd.R_alloc | apply Kd.R_drewN | apply Kd.R_drew)); exact HO364.out) hb); have n1_ := Aside0.mk (Kd.R_below (by (with_reducible repeat (first | apply Kd.R_alloc | apply Kd.R_drewN | apply Kd.R_drew)); exact HO368.out) hb); have n2_ := Aside0.mk (Kd.R_below (by (with_reducible repeat (first | apply Kd.R_alloc | apply Kd.R_drewN | apply Kd.R_drew)); exact HO372.out) hb); have n3_ := Aside0.mk (blk_below (g := gb360) (o := .cells #[.string a2, .string (⟨#[71, 69, 84]⟩ : ByteArray), .string a3, .slice none 0 0] 24 (0, 0)) (by (with_reducible repeat (first | refine blk_drewN ?_ _ | refine blk_drew ?_ | refine blk_alloc ?_ _)); exact BK360.out) hb); have n4_ := Aside0.mk (below_step (by repeat (first | (with_reducible first | exact HB.out | apply below_alloc | apply pw_below_drewN | apply below_drew1 | refine below_set ?_ GE360.out) | exact HB.out)) hb); clear HO364; clear HO368; clear HO372; clear BK360; clear HB; have HO364 := n0_; have HO368 := n1_; have HO372 := n2_; have BK360 := n3_; have HB := n4_; clear n0_ n1_ n2_ n3_ n4_; (try clear hb); (try clear hb2); (try clear hk); (try clear hi)) | (go_at_call 12; (with_reducible refine (age_Usual.calls a1 t375 _ A23.out).mono ?_); rintro e w' ⟨rfl, ⟨nd, rfl⟩⟩))
                  go_ret
                  exact ⟨by first | rfl | (simp [errW_none, errW_some] <;> rfl) | (simp [*, errW_none, errW_some] <;> rfl), by repeat (first | (with_reducible first | exact HB.out | apply below_alloc | apply pw_below_drewN | apply below_drew1 | refine below_set ?_ GE360.out) | exact HB.out)⟩
                · rw [if_neg c26] at H
                  have c26b0 : (t369 == 6) = false := beq_eq_false_iff_ne.mpr c26
                  have c26b1 : (t369 != 6) = true := bne_iff_ne.mpr c26
                  exact absurd ((Option.some.inj H).trans hT.out) (by decide)
              · rw [if_neg c25] at H
                have c25b0 : (t365 == 0) = false := beq_eq_false_iff_ne.mpr c25
                have c25b1 : (t365 != 0) = true := bne_iff_ne.mpr c25
                exact absurd ((Option.some.inj H).trans hT.out) (by decide)
            · rw [if_neg c24] at H
              have c24b0 : ((t361 == 0) == t375) = false := by simpa using c24
              (try (have c24b1 : decide ((t361 == 0) = t375) = false := by simpa using c24))
              (try (have c24b2 : ((t361 == 0) == t375) = false := by simpa using c24))
              (try (have c24b3 : ¬ ((t361 == 0) = t375) := by simpa using c24))
              clear c24
              exact absurd ((Option.some.inj H).trans hT.out) (by decide)
          · replace c22 := Bool.eq_false_iff.mpr c22
            subst c22
            have H1 : (some false) = some r := by rw [if_neg (show ¬ (false = true) by decide)] at H; exact H
            clear H
            have H := H1
            clear H1
            exact absurd ((Option.some.inj H).trans hT.out) (by decide)
  · replace c6 := Bool.eq_false_iff.mpr c6
    subst c6
    have H1 : (some false) = some r := by rw [if_neg (show ¬ (false = true) by decide)] at H; exact H
    clear H
    have H := H1
    clear H1
    exact absurd ((Option.some.inj H).trans hT.out) (by decide)

/-- THE ONE PURE STATEMENT of sprlaw20_MayKinds: yours. -/
def sprlaw20_MayKinds.Pure : Prop := ∀ (a0 : Bool) (a1 : Int) (a2 : ByteArray) (a3 : ByteArray), (Lit.int .i64 a1).wf = true → a2.size ≤ 140737488351232 → a3.size ≤ 140737488351232 → ∃ k, sprlaw20_MayKinds.f k a0 a1 a2 a3 = some true
theorem sprlaw20_MayKinds.walk (P : sprlaw20_MayKinds.Pure) (a0 : Bool) (a1 : Int) (a2 : ByteArray) (a3 : ByteArray) (w : World) (w1 : (Lit.int .i64 a1).wf = true) (w2 : a2.size ≤ 140737488351232) (w3 : a3.size ≤ 140737488351232) :
    Calls Tryd.prog 5 #[.bool a0, .int .i64 a1, .string a2, .string a3] w fun e w' => e = .returned (.bool true) ∧ Below w.heap.size w w' := by
  obtain ⟨k, h⟩ := P a0 a1 a2 a3 w1 w2 w3
  refine (sprlaw20_MayKinds.calls k a0 a1 a2 a3 true w h (Aside0.mk rfl)).mono ?_
  rintro e w' ⟨rfl, hd⟩
  exact ⟨rfl, hd⟩

end Go.Proofs.YtbnlglfddglceaaDoor.Q
