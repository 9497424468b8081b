-- Written by a program of this session's (wip/xprint.py), out of the seat's translation.
import Derived.Test.YtdikhinmlpihdaaDoorQ0
import Derived.Test.YtdikhinmlpihdaaDoorQ1
import Derived.Test.YtdikhinmlpihdaaDoorQ7
import Derived.Test.YtdikhinmlpihdaaDoorQ9
namespace Go.Proofs.YtdikhinmlpihdaaDoor.Q
open Go.RowKit Go.Proofs.YtdikhinmlpihdaaDoorW.PrintWords Go.Proofs.YtdikhinmlpihdaaDoorW.PrintLast Go.Proofs.YtdikhinmlpihdaaDoorW.PrintMore
attribute [local go_sem] max2_int min2_int max_two min_two max_three min_three max_four min_four   -- for this text's walks alone
set_option linter.unusedVariables false
set_option linter.unusedSimpArgs false

/-! ### age_Usual: function 29 -/
def age_Usual.f (a0 : Int) : Option (Bool) := if a0 = 200 then (some true) else (if a0 = 203 then (some true) else (if a0 = 204 then (some true) else (if a0 = 300 then (some true) else (if a0 = 301 then (some true) else (if a0 = 308 then (some true) else (if a0 = 404 then (some true) else (if a0 = 405 then (some true) else (if a0 = 410 then (some true) else (if a0 = 414 then (some true) else (if a0 = 501 then (some true) else (some false)))))))))))
set_option maxHeartbeats 2000000 in
set_option maxRecDepth 100000 in
theorem age_Usual.calls (a0 : Int) (r : Bool) (w : World) (h : age_Usual.f a0 = some r) :
    Calls Tryd.prog 29 #[.int .i64 a0] w fun e w' => e = .returned (.bool r) ∧ Drawn0 w w' := by
  have H : (if a0 = 200 then (some true) else (if a0 = 203 then (some true) else (if a0 = 204 then (some true) else (if a0 = 300 then (some true) else (if a0 = 301 then (some true) else (if a0 = 308 then (some true) else (if a0 = 404 then (some true) else (if a0 = 405 then (some true) else (if a0 = 410 then (some true) else (if a0 = 414 then (some true) else (if a0 = 501 then (some true) else (some false)))))))))))) = some r := h
  clear h
  by_cases c2 : a0 = 200
  · rw [if_pos c2] at H
    have c2b0 : (a0 == 200) = true := beq_iff_eq.mpr c2
    have c2b1 : (a0 != 200) = false := bne_eq_false_iff_eq.mpr c2
    clear c2
    obtain rfl := Option.some.inj H
    go_enter Tryd.func29, Tryd.ntmps29
    go_wp2
    go_ret
    exact ⟨by first | rfl | (simp; done) | (simp [*]; done), by repeat (first | exact Drawn0.refl _ | apply Drawn0.step)⟩
  · rw [if_neg c2] at H
    have c2b0 : (a0 == 200) = false := beq_eq_false_iff_ne.mpr c2
    have c2b1 : (a0 != 200) = true := bne_iff_ne.mpr c2
    by_cases c3 : a0 = 203
    · rw [if_pos c3] at H
      have c3b0 : (a0 == 203) = true := beq_iff_eq.mpr c3
      have c3b1 : (a0 != 203) = false := bne_eq_false_iff_eq.mpr c3
      clear c3
      obtain rfl := Option.some.inj H
      go_enter Tryd.func29, Tryd.ntmps29
      go_wp2
      go_ret
      exact ⟨by first | rfl | (simp; done) | (simp [*]; done), by repeat (first | exact Drawn0.refl _ | apply Drawn0.step)⟩
    · rw [if_neg c3] at H
      have c3b0 : (a0 == 203) = false := beq_eq_false_iff_ne.mpr c3
      have c3b1 : (a0 != 203) = true := bne_iff_ne.mpr c3
      by_cases c4 : a0 = 204
      · rw [if_pos c4] at H
        have c4b0 : (a0 == 204) = true := beq_iff_eq.mpr c4
        have c4b1 : (a0 != 204) = false := bne_eq_false_iff_eq.mpr c4
        clear c4
        obtain rfl := Option.some.inj H
        go_enter Tryd.func29, Tryd.ntmps29
        go_wp2
        go_ret
        exact ⟨by first | rfl | (simp; done) | (simp [*]; done), by repeat (first | exact Drawn0.refl _ | apply Drawn0.step)⟩
      · rw [if_neg c4] at H
        have c4b0 : (a0 == 204) = false := beq_eq_false_iff_ne.mpr c4
        have c4b1 : (a0 != 204) = true := bne_iff_ne.mpr c4
        by_cases c5 : a0 = 300
        · rw [if_pos c5] at H
          have c5b0 : (a0 == 300) = true := beq_iff_eq.mpr c5
          have c5b1 : (a0 != 300) = false := bne_eq_false_iff_eq.mpr c5
          clear c5
          obtain rfl := Option.some.inj H
          go_enter Tryd.func29, Tryd.ntmps29
          go_wp2
          go_ret
          exact ⟨by first | rfl | (simp; done) | (simp [*]; done), by repeat (first | exact Drawn0.refl _ | apply Drawn0.step)⟩
        · rw [if_neg c5] at H
          have c5b0 : (a0 == 300) = false := beq_eq_false_iff_ne.mpr c5
          have c5b1 : (a0 != 300) = true := bne_iff_ne.mpr c5
          by_cases c6 : a0 = 301
          · rw [if_pos c6] at H
            have c6b0 : (a0 == 301) = true := beq_iff_eq.mpr c6
            have c6b1 : (a0 != 301) = false := bne_eq_false_iff_eq.mpr c6
            clear c6
            obtain rfl := Option.some.inj H
            go_enter Tryd.func29, Tryd.ntmps29
            go_wp2
            go_ret
            exact ⟨by first | rfl | (simp; done) | (simp [*]; done), by repeat (first | exact Drawn0.refl _ | apply Drawn0.step)⟩
          · rw [if_neg c6] at H
            have c6b0 : (a0 == 301) = false := beq_eq_false_iff_ne.mpr c6
            have c6b1 : (a0 != 301) = true := bne_iff_ne.mpr c6
            by_cases c7 : a0 = 308
            · rw [if_pos c7] at H
              have c7b0 : (a0 == 308) = true := beq_iff_eq.mpr c7
              have c7b1 : (a0 != 308) = false := bne_eq_false_iff_eq.mpr c7
              clear c7
              obtain rfl := Option.some.inj H
              go_enter Tryd.func29, Tryd.ntmps29
              go_wp2
              go_ret
              exact ⟨by first | rfl | (simp; done) | (simp [*]; done), by repeat (first | exact Drawn0.refl _ | apply Drawn0.step)⟩
            · rw [if_neg c7] at H
              have c7b0 : (a0 == 308) = false := beq_eq_false_iff_ne.mpr c7
              have c7b1 : (a0 != 308) = true := bne_iff_ne.mpr c7
              by_cases c8 : a0 = 404
              · rw [if_pos c8] at H
                have c8b0 : (a0 == 404) = true := beq_iff_eq.mpr c8
                have c8b1 : (a0 != 404) = false := bne_eq_false_iff_eq.mpr c8
                clear c8
                obtain rfl := Option.some.inj H
                go_enter Tryd.func29, Tryd.ntmps29
                go_wp2
                go_ret
                exact ⟨by first | rfl | (simp; done) | (simp [*]; done), by repeat (first | exact Drawn0.refl _ | apply Drawn0.step)⟩
              · rw [if_neg c8] at H
                have c8b0 : (a0 == 404) = false := beq_eq_false_iff_ne.mpr c8
                have c8b1 : (a0 != 404) = true := bne_iff_ne.mpr c8
                by_cases c9 : a0 = 405
                · rw [if_pos c9] at H
                  have c9b0 : (a0 == 405) = true := beq_iff_eq.mpr c9
                  have c9b1 : (a0 != 405) = false := bne_eq_false_iff_eq.mpr c9
                  clear c9
                  obtain rfl := Option.some.inj H
                  go_enter Tryd.func29, Tryd.ntmps29
                  go_wp2
                  go_ret
                  exact ⟨by first | rfl | (simp; done) | (simp [*]; done), by repeat (first | exact Drawn0.refl _ | apply Drawn0.step)⟩
                · rw [if_neg c9] at H
                  have c9b0 : (a0 == 405) = false := beq_eq_false_iff_ne.mpr c9
                  have c9b1 : (a0 != 405) = true := bne_iff_ne.mpr c9
                  by_cases c10 : a0 = 410
                  · rw [if_pos c10] at H
                    have c10b0 : (a0 == 410) = true := beq_iff_eq.mpr c10
                    have c10b1 : (a0 != 410) = false := bne_eq_false_iff_eq.mpr c10
                    clear c10
                    obtain rfl := Option.some.inj H
                    go_enter Tryd.func29, Tryd.ntmps29
                    go_wp2
                    go_ret
                    exact ⟨by first | rfl | (simp; done) | (simp [*]; done), by repeat (first | exact Drawn0.refl _ | apply Drawn0.step)⟩
                  · rw [if_neg c10] at H
                    have c10b0 : (a0 == 410) = false := beq_eq_false_iff_ne.mpr c10
                    have c10b1 : (a0 != 410) = true := bne_iff_ne.mpr c10
                    by_cases c11 : a0 = 414
                    · rw [if_pos c11] at H
                      have c11b0 : (a0 == 414) = true := beq_iff_eq.mpr c11
                      have c11b1 : (a0 != 414) = false := bne_eq_false_iff_eq.mpr c11
                      clear c11
                      obtain rfl := Option.some.inj H
                      go_enter Tryd.func29, Tryd.ntmps29
                      go_wp2
                      go_ret
                      exact ⟨by first | rfl | (simp; done) | (simp [*]; done), by repeat (first | exact Drawn0.refl _ | apply Drawn0.step)⟩
                    · rw [if_neg c11] at H
                      have c11b0 : (a0 == 414) = false := beq_eq_false_iff_ne.mpr c11
                      have c11b1 : (a0 != 414) = true := bne_iff_ne.mpr c11
                      by_cases c12 : a0 = 501
                      · rw [if_pos c12] at H
                        have c12b0 : (a0 == 501) = true := beq_iff_eq.mpr c12
                        have c12b1 : (a0 != 501) = false := bne_eq_false_iff_eq.mpr c12
                        clear c12
                        obtain rfl := Option.some.inj H
                        go_enter Tryd.func29, Tryd.ntmps29
                        go_wp2
                        go_ret
                        exact ⟨by first | rfl | (simp; done) | (simp [*]; done), by repeat (first | exact Drawn0.refl _ | apply Drawn0.step)⟩
                      · rw [if_neg c12] at H
                        have c12b0 : (a0 == 501) = false := beq_eq_false_iff_ne.mpr c12
                        have c12b1 : (a0 != 501) = true := bne_iff_ne.mpr c12
                        obtain rfl := Option.some.inj H
                        go_enter Tryd.func29, Tryd.ntmps29
                        go_wp2
                        go_ret
                        exact ⟨by first | rfl | (simp; done) | (simp [*]; done), by repeat (first | exact Drawn0.refl _ | apply Drawn0.step)⟩

/-! ### age_Life: function 9 -/
def age_Life.j0 : Nat → Int → List (S32) → Int → Int → Bool → Bool → Bool → Bool → Bool → Bool → Bool → Bool → Bool → Bool → Bool → Bool → Bool → Int → Bool → Int → Bool → Int → Bool → Int → Bool → Int → Option (Int)
  | 0, _, _, _, _, _, _, _, _, _, _, _, _, _, _, _, _, _, _, _, _, _, _, _, _, _, _ => none
  | k + 1, x1, x2, x3, x10, x20, x320000, x320001, x320002, x320003, x320004, x320005, x320006, x320007, x320008, x320009, x320010, x320011, x320012, x320013, x320014, x320015, x320016, x320017, x320018, x320019, x320020 => if x20 = true then (some x320014) else (if x320011 = true then (some x320012) else ((head_All.f k x2 (⟨#[69, 120, 112, 105, 114, 101, 115]⟩ : ByteArray)).bind fun t321 => (if (t321.length : Int) > 0 then ((age_one.f k x2 (⟨#[69, 120, 112, 105, 114, 101, 115]⟩ : ByteArray) x3).bind fun bt324 => (if bt324.2 = true then ((bits_Sub.f bt324.1 x10).bind fun t326 => (some t326)) else (some 0))) else ((age_one.f k x2 (⟨#[76, 97, 115, 116, 45, 77, 111, 100, 105, 102, 105, 101, 100]⟩ : ByteArray) x3).bind fun bt327 => (if bt327.2 = true then ((age_Usual.f x1).bind fun t329 => (if t329 = true then ((bits_Sub.f x10 bt327.1).bind fun t330 => (some (mn (wrap64 (Int.tdiv t330 10)) 604800))) else (some 0))) else (some 0))))))
def age_Life.f (k : Nat) (a0 : Bool) (a1 : Int) (l2 : List (S32)) (a3 : Int) : Option (Int) := (age_control.f k l2).bind fun bt298 => ((age_Date.f k l2 a3).bind fun t320 => (if a0 = true then (age_Life.j0 k a1 l2 a3 t320 bt298.2.2.2.2.2.2.2.2.2.2.2.2.2.1 bt298.1 bt298.2.1 bt298.2.2.1 bt298.2.2.2.1 bt298.2.2.2.2.1 bt298.2.2.2.2.2.1 bt298.2.2.2.2.2.2.1 bt298.2.2.2.2.2.2.2.1 bt298.2.2.2.2.2.2.2.2.1 bt298.2.2.2.2.2.2.2.2.2.1 bt298.2.2.2.2.2.2.2.2.2.2.1 bt298.2.2.2.2.2.2.2.2.2.2.2.1 bt298.2.2.2.2.2.2.2.2.2.2.2.2.1 bt298.2.2.2.2.2.2.2.2.2.2.2.2.2.1 bt298.2.2.2.2.2.2.2.2.2.2.2.2.2.2.1 bt298.2.2.2.2.2.2.2.2.2.2.2.2.2.2.2.1 bt298.2.2.2.2.2.2.2.2.2.2.2.2.2.2.2.2.1 bt298.2.2.2.2.2.2.2.2.2.2.2.2.2.2.2.2.2.1 bt298.2.2.2.2.2.2.2.2.2.2.2.2.2.2.2.2.2.2.1 bt298.2.2.2.2.2.2.2.2.2.2.2.2.2.2.2.2.2.2.2.1 bt298.2.2.2.2.2.2.2.2.2.2.2.2.2.2.2.2.2.2.2.2) else (age_Life.j0 k a1 l2 a3 t320 false bt298.1 bt298.2.1 bt298.2.2.1 bt298.2.2.2.1 bt298.2.2.2.2.1 bt298.2.2.2.2.2.1 bt298.2.2.2.2.2.2.1 bt298.2.2.2.2.2.2.2.1 bt298.2.2.2.2.2.2.2.2.1 bt298.2.2.2.2.2.2.2.2.2.1 bt298.2.2.2.2.2.2.2.2.2.2.1 bt298.2.2.2.2.2.2.2.2.2.2.2.1 bt298.2.2.2.2.2.2.2.2.2.2.2.2.1 bt298.2.2.2.2.2.2.2.2.2.2.2.2.2.1 bt298.2.2.2.2.2.2.2.2.2.2.2.2.2.2.1 bt298.2.2.2.2.2.2.2.2.2.2.2.2.2.2.2.1 bt298.2.2.2.2.2.2.2.2.2.2.2.2.2.2.2.2.1 bt298.2.2.2.2.2.2.2.2.2.2.2.2.2.2.2.2.2.1 bt298.2.2.2.2.2.2.2.2.2.2.2.2.2.2.2.2.2.2.1 bt298.2.2.2.2.2.2.2.2.2.2.2.2.2.2.2.2.2.2.2.1 bt298.2.2.2.2.2.2.2.2.2.2.2.2.2.2.2.2.2.2.2.2)))
theorem age_Life.mono_l : ∀ k, (∀ y0 y1 y2 y3 y4 y5 y6 y7 y8 y9 y10 y11 y12 y13 y14 y15 y16 y17 y18 y19 y20 y21 y22 y23 y24 y25, LeO (age_Life.j0 k y0 y1 y2 y3 y4 y5 y6 y7 y8 y9 y10 y11 y12 y13 y14 y15 y16 y17 y18 y19 y20 y21 y22 y23 y24 y25) (age_Life.j0 (k + 1) y0 y1 y2 y3 y4 y5 y6 y7 y8 y9 y10 y11 y12 y13 y14 y15 y16 y17 y18 y19 y20 y21 y22 y23 y24 y25))
  | 0 => fun _ _ _ _ _ _ _ _ _ _ _ _ _ _ _ _ _ _ _ _ _ _ _ _ _ _ r h => by simp [age_Life.j0] at h
  | k + 1 => by
    have ih0 := age_Life.mono_l k
    · intro y0 y1 y2 y3 y4 y5 y6 y7 y8 y9 y10 y11 y12 y13 y14 y15 y16 y17 y18 y19 y20 y21 y22 y23 y24 y25
      unfold age_Life.j0
      repeat' first
      | (with_reducible exact ih0 _ _ _ _ _ _ _ _ _ _ _ _ _ _ _ _ _ _ _ _ _ _ _ _ _ _)
      | (with_reducible exact age_Date.mono _ _ _)
      | (with_reducible exact age_control.mono _ _)
      | (with_reducible exact age_one.mono _ _ _ _)
      | (with_reducible exact head_All.mono _ _ _)
      | (with_reducible exact LeO.refl _)
      | (with_reducible exact LeO.none _)
      | (with_reducible refine LeO.ite ?_ ?_)
      | (with_reducible refine LeO.bind ?_ (fun _ => ?_))
      | exact ih0 _ _ _ _ _ _ _ _ _ _ _ _ _ _ _ _ _ _ _ _ _ _ _ _ _ _
      | exact age_Date.mono _ _ _
      | exact age_control.mono _ _
      | exact age_one.mono _ _ _ _
      | exact head_All.mono _ _ _
      | exact LeO.none _
      | refine LeO.ite ?_ ?_
      | refine LeO.bind ?_ (fun _ => ?_)
theorem age_Life.mono : ∀ a0 a1 a2 a3 k, LeO (age_Life.f k a0 a1 a2 a3) (age_Life.f (k + 1) a0 a1 a2 a3) := by
  intro a0 a1 a2 a3 k
  have ih0 := age_Life.mono_l k
  unfold age_Life.f
  repeat' first
      | (with_reducible exact ih0 _ _ _ _ _ _ _ _ _ _ _ _ _ _ _ _ _ _ _ _ _ _ _ _ _ _)
      | (with_reducible exact age_Date.mono _ _ _)
      | (with_reducible exact age_control.mono _ _)
      | (with_reducible exact age_one.mono _ _ _ _)
      | (with_reducible exact head_All.mono _ _ _)
      | (with_reducible exact LeO.refl _)
      | (with_reducible exact LeO.none _)
      | (with_reducible refine LeO.ite ?_ ?_)
      | (with_reducible refine LeO.bind ?_ (fun _ => ?_))
      | exact ih0 _ _ _ _ _ _ _ _ _ _ _ _ _ _ _ _ _ _ _ _ _ _ _ _ _ _
      | exact age_Date.mono _ _ _
      | exact age_control.mono _ _
      | exact age_one.mono _ _ _ _
      | exact head_All.mono _ _ _
      | exact LeO.none _
      | refine LeO.ite ?_ ?_
      | refine LeO.bind ?_ (fun _ => ?_)
set_option maxHeartbeats 2000000 in
set_option maxRecDepth 100000 in
theorem age_Life.calls (k : Nat) (a0 : Bool) (a1 : Int) (A2 : Option Addr) (c2 : Nat) (l2 : List (S32)) (a3 : Int) (r : Int) (w : World) (hr2 : Kd.C k32 w A2 l2.length l2) (hc2 : l2.length ≤ c2) (h : age_Life.f k a0 a1 l2 a3 = some r) :
    Calls Tryd.prog 9 #[.bool a0, .int .i64 a1, .slice A2 l2.length c2, .int .i64 a3] w fun e w' => e = .returned (.int .i64 r) ∧ Below w.heap.size w w' := by
  have hu51 := Tryd.underlying51
  have HR2 := Aside0.mk hr2
  have HC2 := Aside0.mk hc2
  clear hr2 hc2
  have HB := Aside0.mk (Below.refl w.heap.size w)
  have H : ((age_control.f k l2).bind fun bt298 => ((age_Date.f k l2 a3).bind fun t320 => (if a0 = true then (age_Life.j0 k a1 l2 a3 t320 bt298.2.2.2.2.2.2.2.2.2.2.2.2.2.1 bt298.1 bt298.2.1 bt298.2.2.1 bt298.2.2.2.1 bt298.2.2.2.2.1 bt298.2.2.2.2.2.1 bt298.2.2.2.2.2.2.1 bt298.2.2.2.2.2.2.2.1 bt298.2.2.2.2.2.2.2.2.1 bt298.2.2.2.2.2.2.2.2.2.1 bt298.2.2.2.2.2.2.2.2.2.2.1 bt298.2.2.2.2.2.2.2.2.2.2.2.1 bt298.2.2.2.2.2.2.2.2.2.2.2.2.1 bt298.2.2.2.2.2.2.2.2.2.2.2.2.2.1 bt298.2.2.2.2.2.2.2.2.2.2.2.2.2.2.1 bt298.2.2.2.2.2.2.2.2.2.2.2.2.2.2.2.1 bt298.2.2.2.2.2.2.2.2.2.2.2.2.2.2.2.2.1 bt298.2.2.2.2.2.2.2.2.2.2.2.2.2.2.2.2.2.1 bt298.2.2.2.2.2.2.2.2.2.2.2.2.2.2.2.2.2.2.1 bt298.2.2.2.2.2.2.2.2.2.2.2.2.2.2.2.2.2.2.2.1 bt298.2.2.2.2.2.2.2.2.2.2.2.2.2.2.2.2.2.2.2.2) else (age_Life.j0 k a1 l2 a3 t320 false bt298.1 bt298.2.1 bt298.2.2.1 bt298.2.2.2.1 bt298.2.2.2.2.1 bt298.2.2.2.2.2.1 bt298.2.2.2.2.2.2.1 bt298.2.2.2.2.2.2.2.1 bt298.2.2.2.2.2.2.2.2.1 bt298.2.2.2.2.2.2.2.2.2.1 bt298.2.2.2.2.2.2.2.2.2.2.1 bt298.2.2.2.2.2.2.2.2.2.2.2.1 bt298.2.2.2.2.2.2.2.2.2.2.2.2.1 bt298.2.2.2.2.2.2.2.2.2.2.2.2.2.1 bt298.2.2.2.2.2.2.2.2.2.2.2.2.2.2.1 bt298.2.2.2.2.2.2.2.2.2.2.2.2.2.2.2.1 bt298.2.2.2.2.2.2.2.2.2.2.2.2.2.2.2.2.1 bt298.2.2.2.2.2.2.2.2.2.2.2.2.2.2.2.2.2.1 bt298.2.2.2.2.2.2.2.2.2.2.2.2.2.2.2.2.2.2.1 bt298.2.2.2.2.2.2.2.2.2.2.2.2.2.2.2.2.2.2.2.1 bt298.2.2.2.2.2.2.2.2.2.2.2.2.2.2.2.2.2.2.2.2)))) = some r := h
  clear h
  replace H := Option.bind_eq_some_iff.mp H
  obtain ⟨⟨t298, t299, t300, t301, t302, t303, t304, t305, t306, t307, t308, t309, t310, t311, t312, t313, t314, t315, t316, t317, t318⟩, A50, H⟩ := H
  replace H : ((age_Date.f k l2 a3).bind fun t320 => (if a0 = true then (age_Life.j0 k a1 l2 a3 t320 t311 t298 t299 t300 t301 t302 t303 t304 t305 t306 t307 t308 t309 t310 t311 t312 t313 t314 t315 t316 t317 t318) else (age_Life.j0 k a1 l2 a3 t320 false t298 t299 t300 t301 t302 t303 t304 t305 t306 t307 t308 t309 t310 t311 t312 t313 t314 t315 t316 t317 t318))) = some r := H
  have A5 := Aside0.mk A50
  clear A50
  replace H := Option.bind_eq_some_iff.mp H
  obtain ⟨t320, A60, H⟩ := H
  replace H : (if a0 = true then (age_Life.j0 k a1 l2 a3 t320 t311 t298 t299 t300 t301 t302 t303 t304 t305 t306 t307 t308 t309 t310 t311 t312 t313 t314 t315 t316 t317 t318) else (age_Life.j0 k a1 l2 a3 t320 false t298 t299 t300 t301 t302 t303 t304 t305 t306 t307 t308 t309 t310 t311 t312 t313 t314 t315 t316 t317 t318)) = some r := H
  have A6 := Aside0.mk A60
  clear A60
  have HC7 := Aside0.mk H
  clear H
  go_enter Tryd.func9, Tryd.ntmps9
  go_upto_region 3 with (first | ((with_reducible refine gate_store (t := 51) rfl ?_); refine wpList_store_row rfl 51 _ _ rfl _ #[.bool t298, .bool t299, .bool t300, .bool t301, .bool t302, .bool t303, .bool t304, .bool t305, .bool t306, .bool t307, .bool t308, .bool t309, .int .i64 t310, .bool t311, .int .i64 t312, .bool t313, .int .i64 t314, .bool t315, .int .i64 t316, .bool t317, .int .i64 t318] rfl rfl 51 _ BK319.out (by kernel_rfl) rfl (by simp [Value.oneCell']) ?_; obtain ⟨wrow, hwrow⟩ : ∃ wr_, wr_ = World.setRow w9 gb319 #[.bool t298, .bool t299, .bool t300, .bool t301, .bool t302, .bool t303, .bool t304, .bool t305, .bool t306, .bool t307, .bool t308, .bool t309, .int .i64 t310, .bool t311, .int .i64 t312, .bool t313, .int .i64 t314, .bool t315, .int .i64 t316, .bool t317, .int .i64 t318] := ⟨_, rfl⟩; rw [← hwrow]; have HBrow := Aside0.mk (by rw [hwrow]; exact age_control.below HB.out GW319.out _ : Below w.heap.size w wrow); have BKrow := Aside0.mk (by rw [hwrow]; exact setRow_heap _ _ _ _ _ _ BK319.out : wrow.heap[gb319]? = some (.cells #[.bool t298, .bool t299, .bool t300, .bool t301, .bool t302, .bool t303, .bool t304, .bool t305, .bool t306, .bool t307, .bool t308, .bool t309, .int .i64 t310, .bool t311, .int .i64 t312, .bool t313, .int .i64 t314, .bool t315, .int .i64 t316, .bool t317, .int .i64 t318] 51 (0, 0))); clear hwrow HB BK319; have HB := HBrow; have BK319 := BKrow; clear HBrow BKrow; clear hcz10_0 hcz10_1 hcz10_2 hcz10_3 hcz10_4 hcz10_5 hcz10_6 hcz10_7 hcz10_8 hcz10_9 hcz10_10 hcz10_11 hcz10_12 hcz10_13 hcz10_14 hcz10_15 hcz10_16 hcz10_17 hcz10_18 hcz10_19 hcz10_20 hfz10_0 hfz10_1 hfz10_2 hfz10_3 hfz10_4 hfz10_5 hfz10_6 hfz10_7 hfz10_8 hfz10_9 hfz10_10 hfz10_11 hfz10_12 hfz10_13 hfz10_14 hfz10_15 hfz10_16 hfz10_17 hfz10_18 hfz10_19 hfz10_20) | ((with_reducible refine gate_callee (f := 27) rfl ?_); refine goesL_ (some 16) rfl rfl Tryd.func27 (by kernel_rfl) rfl #[.slice A2 l2.length c2] rfl (by (try simp only [List.map_toArray, List.map_cons, List.map_nil]); first | done | rfl | (simp only [List.length_drop, List.length_take]; rfl)) ?_; (with_reducible refine (age_control.calls k _ _ l2 t298 t299 t300 t301 t302 t303 t304 t305 t306 t307 t308 t309 t310 t311 t312 t313 t314 t315 t316 t317 t318 _ ?side1 ?side2 A5.out).mono ?_); (case side1 => repeat (first | exact HR2.out | (with_reducible refine Kd.C_alloc ?_ _) | (with_reducible refine Kd.C_drewN ?_ _) | (with_reducible refine Kd.C_drew ?_))); (case side2 => exact HC2.out); rintro e w8 ⟨rfl, hb⟩; refine ⟨_, rfl, ?_⟩; have n0_ := Aside0.mk (below_step (by repeat (first | (with_reducible first | exact HB.out | apply below_alloc | apply pw_below_drewN | apply below_drew1) | exact HB.out)) hb); clear HB; have HB := n0_; clear n0_; (try clear hb); (try clear hb2); (try clear hk); (try clear hi)) | ((with_reducible refine gate_dst (N := 9) rfl ?_); refine box_event ?hg (N := 9) ?hd (cs := #[.bool false, .bool false, .bool false, .bool false, .bool false, .bool false, .bool false, .bool false, .bool false, .bool false, .bool false, .bool false, .int .i64 0, .bool false, .int .i64 0, .bool false, .int .i64 0, .bool false, .int .i64 0, .bool false, .int .i64 0]) (t := 51) ?hr ?_; (case hd => rfl); (case hg => rfl); (case hr => first | (go_simp; done) | (go_simp; rfl)); intro gb319 hg w9 hbox hb; have n0_ := Aside0.mk (below_step (by repeat (first | (with_reducible first | exact HB.out | apply below_alloc | apply pw_below_drewN | apply below_drew1) | exact HB.out)) hb); have n1_ := Aside0.mk (hbox); have n2_ := Aside0.mk ((by rw [hg]; exact (below_size (by repeat (first | (with_reducible first | exact HB.out | apply below_alloc | apply pw_below_drewN | apply below_drew1) | exact HB.out))) : w.heap.size ≤ gb319)); have n3_ := Aside0.mk ((by rw [hg]; exact (below_size (by repeat (first | (with_reducible first | exact HB.out | apply below_alloc | apply pw_below_drewN | apply below_drew1) | exact HB.out))) : w.heap.size ≤ gb319)); clear HB; have HB := n0_; have BK319 := n1_; have GW319 := n2_; have GE319 := n3_; clear n0_ n1_ n2_ n3_; clear hb hbox hg; have hcz10_0 : w9.cell? ⟨gb319, 0, none⟩ = some (.bool false) := (blk_cell BK319.out 0).trans rfl; have hcz10_1 : w9.cell? ⟨gb319, 1, none⟩ = some (.bool false) := (blk_cell BK319.out 1).trans rfl; have hcz10_2 : w9.cell? ⟨gb319, 2, none⟩ = some (.bool false) := (blk_cell BK319.out 2).trans rfl; have hcz10_3 : w9.cell? ⟨gb319, 3, none⟩ = some (.bool false) := (blk_cell BK319.out 3).trans rfl; have hcz10_4 : w9.cell? ⟨gb319, 4, none⟩ = some (.bool false) := (blk_cell BK319.out 4).trans rfl; have hcz10_5 : w9.cell? ⟨gb319, 5, none⟩ = some (.bool false) := (blk_cell BK319.out 5).trans rfl; have hcz10_6 : w9.cell? ⟨gb319, 6, none⟩ = some (.bool false) := (blk_cell BK319.out 6).trans rfl; have hcz10_7 : w9.cell? ⟨gb319, 7, none⟩ = some (.bool false) := (blk_cell BK319.out 7).trans rfl; have hcz10_8 : w9.cell? ⟨gb319, 8, none⟩ = some (.bool false) := (blk_cell BK319.out 8).trans rfl; have hcz10_9 : w9.cell? ⟨gb319, 9, none⟩ = some (.bool false) := (blk_cell BK319.out 9).trans rfl; have hcz10_10 : w9.cell? ⟨gb319, 10, none⟩ = some (.bool false) := (blk_cell BK319.out 10).trans rfl; have hcz10_11 : w9.cell? ⟨gb319, 11, none⟩ = some (.bool false) := (blk_cell BK319.out 11).trans rfl; have hcz10_12 : w9.cell? ⟨gb319, 12, none⟩ = some (.int .i64 0) := (blk_cell BK319.out 12).trans rfl; have hcz10_13 : w9.cell? ⟨gb319, 13, none⟩ = some (.bool false) := (blk_cell BK319.out 13).trans rfl; have hcz10_14 : w9.cell? ⟨gb319, 14, none⟩ = some (.int .i64 0) := (blk_cell BK319.out 14).trans rfl; have hcz10_15 : w9.cell? ⟨gb319, 15, none⟩ = some (.bool false) := (blk_cell BK319.out 15).trans rfl; have hcz10_16 : w9.cell? ⟨gb319, 16, none⟩ = some (.int .i64 0) := (blk_cell BK319.out 16).trans rfl; have hcz10_17 : w9.cell? ⟨gb319, 17, none⟩ = some (.bool false) := (blk_cell BK319.out 17).trans rfl; have hcz10_18 : w9.cell? ⟨gb319, 18, none⟩ = some (.int .i64 0) := (blk_cell BK319.out 18).trans rfl; have hcz10_19 : w9.cell? ⟨gb319, 19, none⟩ = some (.bool false) := (blk_cell BK319.out 19).trans rfl; have hcz10_20 : w9.cell? ⟨gb319, 20, none⟩ = some (.int .i64 0) := (blk_cell BK319.out 20).trans rfl; have hfz10_0 := blk_frozen BK319.out 0; have hfz10_1 := blk_frozen BK319.out 1; have hfz10_2 := blk_frozen BK319.out 2; have hfz10_3 := blk_frozen BK319.out 3; have hfz10_4 := blk_frozen BK319.out 4; have hfz10_5 := blk_frozen BK319.out 5; have hfz10_6 := blk_frozen BK319.out 6; have hfz10_7 := blk_frozen BK319.out 7; have hfz10_8 := blk_frozen BK319.out 8; have hfz10_9 := blk_frozen BK319.out 9; have hfz10_10 := blk_frozen BK319.out 10; have hfz10_11 := blk_frozen BK319.out 11; have hfz10_12 := blk_frozen BK319.out 12; have hfz10_13 := blk_frozen BK319.out 13; have hfz10_14 := blk_frozen BK319.out 14; have hfz10_15 := blk_frozen BK319.out 15; have hfz10_16 := blk_frozen BK319.out 16; have hfz10_17 := blk_frozen BK319.out 17; have hfz10_18 := blk_frozen BK319.out 18; have hfz10_19 := blk_frozen BK319.out 19; have hfz10_20 := blk_frozen BK319.out 20) | ((with_reducible refine gate_callee (f := 11) rfl ?_); refine goesL_ (some 19) rfl rfl Tryd.func11 (by kernel_rfl) rfl #[.slice A2 l2.length c2, .int .i64 a3] rfl (by (try simp only [List.map_toArray, List.map_cons, List.map_nil]); first | done | rfl | (simp only [List.length_drop, List.length_take]; rfl)) ?_; (with_reducible refine (age_Date.calls k _ _ l2 a3 t320 _ ?side1 ?side2 A6.out).mono ?_); (case side1 => exact Kd.C_below HR2.out (by repeat (first | (with_reducible first | exact HB.out | apply below_alloc | apply pw_below_drewN | apply below_drew1 | refine below_set ?_ GE319.out) | exact HB.out))); (case side2 => exact HC2.out); rintro e w11 ⟨rfl, hb⟩; refine ⟨_, rfl, ?_⟩; have n0_ := Aside0.mk (blk_below (g := gb319) (o := .cells #[.bool t298, .bool t299, .bool t300, .bool t301, .bool t302, .bool t303, .bool t304, .bool t305, .bool t306, .bool t307, .bool t308, .bool t309, .int .i64 t310, .bool t311, .int .i64 t312, .bool t313, .int .i64 t314, .bool t315, .int .i64 t316, .bool t317, .int .i64 t318] 51 (0, 0)) BK319.out hb); have n1_ := Aside0.mk (below_step (by repeat (first | (with_reducible first | exact HB.out | apply below_alloc | apply pw_below_drewN | apply below_drew1 | refine below_set ?_ GE319.out) | exact HB.out)) hb); clear BK319; clear HB; have BK319 := n0_; have HB := n1_; clear n0_ n1_; (try clear hb); (try clear hb2); (try clear hk); (try clear hi)))
  (try simp only [Act.put, List.setIfInBounds_toArray, List.set_cons_zero, List.set_cons_succ])
  go_cut [20] (fun v20 wc => ∃ (kq : Nat) (x20_6 : Bool), v20 = .bool x20_6 ∧ Aside0 (age_Life.j0 kq a1 l2 a3 t320 x20_6 t298 t299 t300 t301 t302 t303 t304 t305 t306 t307 t308 t309 t310 t311 t312 t313 t314 t315 t316 t317 t318 = some r) ∧ Aside0 (kq ≤ k) ∧ Aside0 (wc.heap[gb319]? = some (.cells #[.bool t298, .bool t299, .bool t300, .bool t301, .bool t302, .bool t303, .bool t304, .bool t305, .bool t306, .bool t307, .bool t308, .bool t309, .int .i64 t310, .bool t311, .int .i64 t312, .bool t313, .int .i64 t314, .bool t315, .int .i64 t316, .bool t317, .int .i64 t318] 51 (0, 0))) ∧ Aside0 (Below w.heap.size w wc))
  case first =>
    have H := HC7.out
    clear HC7
    by_cases c12 : a0 = true
    · subst c12
      have H1 : (age_Life.j0 k a1 l2 a3 t320 t311 t298 t299 t300 t301 t302 t303 t304 t305 t306 t307 t308 t309 t310 t311 t312 t313 t314 t315 t316 t317 t318) = some r := by rw [if_pos rfl] at H; exact H
      clear H
      have H := H1
      clear H1
      have H' := Aside0.mk H
      clear H
      have hcz13_0 : w11.cell? ⟨gb319, 0, none⟩ = some (.bool t298) := (blk_cell BK319.out 0).trans rfl
      have hcz13_1 : w11.cell? ⟨gb319, 1, none⟩ = some (.bool t299) := (blk_cell BK319.out 1).trans rfl
      have hcz13_2 : w11.cell? ⟨gb319, 2, none⟩ = some (.bool t300) := (blk_cell BK319.out 2).trans rfl
      have hcz13_3 : w11.cell? ⟨gb319, 3, none⟩ = some (.bool t301) := (blk_cell BK319.out 3).trans rfl
      have hcz13_4 : w11.cell? ⟨gb319, 4, none⟩ = some (.bool t302) := (blk_cell BK319.out 4).trans rfl
      have hcz13_5 : w11.cell? ⟨gb319, 5, none⟩ = some (.bool t303) := (blk_cell BK319.out 5).trans rfl
      have hcz13_6 : w11.cell? ⟨gb319, 6, none⟩ = some (.bool t304) := (blk_cell BK319.out 6).trans rfl
      have hcz13_7 : w11.cell? ⟨gb319, 7, none⟩ = some (.bool t305) := (blk_cell BK319.out 7).trans rfl
      have hcz13_8 : w11.cell? ⟨gb319, 8, none⟩ = some (.bool t306) := (blk_cell BK319.out 8).trans rfl
      have hcz13_9 : w11.cell? ⟨gb319, 9, none⟩ = some (.bool t307) := (blk_cell BK319.out 9).trans rfl
      have hcz13_10 : w11.cell? ⟨gb319, 10, none⟩ = some (.bool t308) := (blk_cell BK319.out 10).trans rfl
      have hcz13_11 : w11.cell? ⟨gb319, 11, none⟩ = some (.bool t309) := (blk_cell BK319.out 11).trans rfl
      have hcz13_12 : w11.cell? ⟨gb319, 12, none⟩ = some (.int .i64 t310) := (blk_cell BK319.out 12).trans rfl
      have hcz13_13 : w11.cell? ⟨gb319, 13, none⟩ = some (.bool t311) := (blk_cell BK319.out 13).trans rfl
      have hcz13_14 : w11.cell? ⟨gb319, 14, none⟩ = some (.int .i64 t312) := (blk_cell BK319.out 14).trans rfl
      have hcz13_15 : w11.cell? ⟨gb319, 15, none⟩ = some (.bool t313) := (blk_cell BK319.out 15).trans rfl
      have hcz13_16 : w11.cell? ⟨gb319, 16, none⟩ = some (.int .i64 t314) := (blk_cell BK319.out 16).trans rfl
      have hcz13_17 : w11.cell? ⟨gb319, 17, none⟩ = some (.bool t315) := (blk_cell BK319.out 17).trans rfl
      have hcz13_18 : w11.cell? ⟨gb319, 18, none⟩ = some (.int .i64 t316) := (blk_cell BK319.out 18).trans rfl
      have hcz13_19 : w11.cell? ⟨gb319, 19, none⟩ = some (.bool t317) := (blk_cell BK319.out 19).trans rfl
      have hcz13_20 : w11.cell? ⟨gb319, 20, none⟩ = some (.int .i64 t318) := (blk_cell BK319.out 20).trans rfl
      have hfz13_0 := blk_frozen BK319.out 0
      have hfz13_1 := blk_frozen BK319.out 1
      have hfz13_2 := blk_frozen BK319.out 2
      have hfz13_3 := blk_frozen BK319.out 3
      have hfz13_4 := blk_frozen BK319.out 4
      have hfz13_5 := blk_frozen BK319.out 5
      have hfz13_6 := blk_frozen BK319.out 6
      have hfz13_7 := blk_frozen BK319.out 7
      have hfz13_8 := blk_frozen BK319.out 8
      have hfz13_9 := blk_frozen BK319.out 9
      have hfz13_10 := blk_frozen BK319.out 10
      have hfz13_11 := blk_frozen BK319.out 11
      have hfz13_12 := blk_frozen BK319.out 12
      have hfz13_13 := blk_frozen BK319.out 13
      have hfz13_14 := blk_frozen BK319.out 14
      have hfz13_15 := blk_frozen BK319.out 15
      have hfz13_16 := blk_frozen BK319.out 16
      have hfz13_17 := blk_frozen BK319.out 17
      have hfz13_18 := blk_frozen BK319.out 18
      have hfz13_19 := blk_frozen BK319.out 19
      have hfz13_20 := blk_frozen BK319.out 20
      go_wp2_with (first | ((with_reducible refine gate_store (t := 51) rfl ?_); refine wpList_store_row rfl 51 _ _ rfl _ _ rfl rfl 51 _ (by first | exact blk_new _ _ | exact blk_alloc (blk_new _ _) _) (by kernel_rfl) rfl (by simp [Value.oneCell']) ?_; (first | rw [Own.alloc_setRow] | rw [Own.alloc2_setRow0] | rw [Own.alloc2_setRow1])))
      go_meet
      case rel => exact ⟨_, (t311), (by first | rfl | (simp; done) | (simp [*]; done)), H', ⟨by first | omega | exact Nat.le_refl _⟩, ⟨by (with_reducible repeat (first | refine blk_drewN ?_ _ | refine blk_drew ?_ | refine blk_alloc ?_ _)); exact BK319.out⟩, ⟨by repeat (first | (with_reducible first | exact HB.out | apply below_alloc | apply pw_below_drewN | apply below_drew1 | refine below_set ?_ GE319.out) | exact HB.out)⟩⟩
    · replace c12 := Bool.eq_false_iff.mpr c12
      subst c12
      have H1 : (age_Life.j0 k a1 l2 a3 t320 false t298 t299 t300 t301 t302 t303 t304 t305 t306 t307 t308 t309 t310 t311 t312 t313 t314 t315 t316 t317 t318) = some r := by rw [if_neg (show ¬ (false = true) by decide)] at H; exact H
      clear H
      have H := H1
      clear H1
      have H' := Aside0.mk H
      clear H
      go_wp2_with (first | ((with_reducible refine gate_store (t := 51) rfl ?_); refine wpList_store_row rfl 51 _ _ rfl _ _ rfl rfl 51 _ (by first | exact blk_new _ _ | exact blk_alloc (blk_new _ _) _) (by kernel_rfl) rfl (by simp [Value.oneCell']) ?_; (first | rw [Own.alloc_setRow] | rw [Own.alloc2_setRow0] | rw [Own.alloc2_setRow1])))
      go_meet
      case rel => exact ⟨_, (false), (by first | rfl | (simp; done) | (simp [*]; done)), H', ⟨by first | omega | exact Nat.le_refl _⟩, ⟨by (with_reducible repeat (first | refine blk_drewN ?_ _ | refine blk_drew ?_ | refine blk_alloc ?_ _)); exact BK319.out⟩, ⟨by repeat (first | (with_reducible first | exact HB.out | apply below_alloc | apply pw_below_drewN | apply below_drew1 | refine below_set ?_ GE319.out) | exact HB.out)⟩⟩
  case rest =>
    clear HC7
    try clear c1
    try clear c2
    try clear p2
    try clear c9
    try clear c11
    try clear c12
    try clear hcz10_0
    try clear hcz10_1
    try clear hcz10_10
    try clear hcz10_11
    try clear hcz10_12
    try clear hcz10_13
    try clear hcz10_14
    try clear hcz10_15
    try clear hcz10_16
    try clear hcz10_17
    try clear hcz10_18
    try clear hcz10_19
    try clear hcz10_2
    try clear hcz10_20
    try clear hcz10_3
    try clear hcz10_4
    try clear hcz10_5
    try clear hcz10_6
    try clear hcz10_7
    try clear hcz10_8
    try clear hcz10_9
    try clear hcz13_0
    try clear hcz13_1
    try clear hcz13_10
    try clear hcz13_11
    try clear hcz13_12
    try clear hcz13_13
    try clear hcz13_14
    try clear hcz13_15
    try clear hcz13_16
    try clear hcz13_17
    try clear hcz13_18
    try clear hcz13_19
    try clear hcz13_2
    try clear hcz13_20
    try clear hcz13_3
    try clear hcz13_4
    try clear hcz13_5
    try clear hcz13_6
    try clear hcz13_7
    try clear hcz13_8
    try clear hcz13_9
    try clear hfz10_0
    try clear hfz10_1
    try clear hfz10_10
    try clear hfz10_11
    try clear hfz10_12
    try clear hfz10_13
    try clear hfz10_14
    try clear hfz10_15
    try clear hfz10_16
    try clear hfz10_17
    try clear hfz10_18
    try clear hfz10_19
    try clear hfz10_2
    try clear hfz10_20
    try clear hfz10_3
    try clear hfz10_4
    try clear hfz10_5
    try clear hfz10_6
    try clear hfz10_7
    try clear hfz10_8
    try clear hfz10_9
    try clear hfz13_0
    try clear hfz13_1
    try clear hfz13_10
    try clear hfz13_11
    try clear hfz13_12
    try clear hfz13_13
    try clear hfz13_14
    try clear hfz13_15
    try clear hfz13_16
    try clear hfz13_17
    try clear hfz13_18
    try clear hfz13_19
    try clear hfz13_2
    try clear hfz13_20
    try clear hfz13_3
    try clear hfz13_4
    try clear hfz13_5
    try clear hfz13_6
    try clear hfz13_7
    try clear hfz13_8
    try clear hfz13_9
    obtain ⟨kq, x20_6, rfl, HA, HJ6, BK319, HB⟩ := hcut
    cases kq with
    | zero => exact absurd HA.out (by simp [age_Life.j0])
    | succ kj6 =>
      have H := HA.out
      clear HA
      simp only [age_Life.j0] at H
      by_cases c14 : x20_6 = true
      · subst c14
        have H1 : (some t312) = some r := by rw [if_pos rfl] at H; exact H
        clear H
        have H := H1
        clear H1
        obtain rfl := Option.some.inj H
        have hcz15_0 : wc.cell? ⟨gb319, 0, none⟩ = some (.bool t298) := (blk_cell BK319.out 0).trans rfl
        have hcz15_1 : wc.cell? ⟨gb319, 1, none⟩ = some (.bool t299) := (blk_cell BK319.out 1).trans rfl
        have hcz15_2 : wc.cell? ⟨gb319, 2, none⟩ = some (.bool t300) := (blk_cell BK319.out 2).trans rfl
        have hcz15_3 : wc.cell? ⟨gb319, 3, none⟩ = some (.bool t301) := (blk_cell BK319.out 3).trans rfl
        have hcz15_4 : wc.cell? ⟨gb319, 4, none⟩ = some (.bool t302) := (blk_cell BK319.out 4).trans rfl
        have hcz15_5 : wc.cell? ⟨gb319, 5, none⟩ = some (.bool t303) := (blk_cell BK319.out 5).trans rfl
        have hcz15_6 : wc.cell? ⟨gb319, 6, none⟩ = some (.bool t304) := (blk_cell BK319.out 6).trans rfl
        have hcz15_7 : wc.cell? ⟨gb319, 7, none⟩ = some (.bool t305) := (blk_cell BK319.out 7).trans rfl
        have hcz15_8 : wc.cell? ⟨gb319, 8, none⟩ = some (.bool t306) := (blk_cell BK319.out 8).trans rfl
        have hcz15_9 : wc.cell? ⟨gb319, 9, none⟩ = some (.bool t307) := (blk_cell BK319.out 9).trans rfl
        have hcz15_10 : wc.cell? ⟨gb319, 10, none⟩ = some (.bool t308) := (blk_cell BK319.out 10).trans rfl
        have hcz15_11 : wc.cell? ⟨gb319, 11, none⟩ = some (.bool t309) := (blk_cell BK319.out 11).trans rfl
        have hcz15_12 : wc.cell? ⟨gb319, 12, none⟩ = some (.int .i64 t310) := (blk_cell BK319.out 12).trans rfl
        have hcz15_13 : wc.cell? ⟨gb319, 13, none⟩ = some (.bool t311) := (blk_cell BK319.out 13).trans rfl
        have hcz15_14 : wc.cell? ⟨gb319, 14, none⟩ = some (.int .i64 t312) := (blk_cell BK319.out 14).trans rfl
        have hcz15_15 : wc.cell? ⟨gb319, 15, none⟩ = some (.bool t313) := (blk_cell BK319.out 15).trans rfl
        have hcz15_16 : wc.cell? ⟨gb319, 16, none⟩ = some (.int .i64 t314) := (blk_cell BK319.out 16).trans rfl
        have hcz15_17 : wc.cell? ⟨gb319, 17, none⟩ = some (.bool t315) := (blk_cell BK319.out 17).trans rfl
        have hcz15_18 : wc.cell? ⟨gb319, 18, none⟩ = some (.int .i64 t316) := (blk_cell BK319.out 18).trans rfl
        have hcz15_19 : wc.cell? ⟨gb319, 19, none⟩ = some (.bool t317) := (blk_cell BK319.out 19).trans rfl
        have hcz15_20 : wc.cell? ⟨gb319, 20, none⟩ = some (.int .i64 t318) := (blk_cell BK319.out 20).trans rfl
        have hfz15_0 := blk_frozen BK319.out 0
        have hfz15_1 := blk_frozen BK319.out 1
        have hfz15_2 := blk_frozen BK319.out 2
        have hfz15_3 := blk_frozen BK319.out 3
        have hfz15_4 := blk_frozen BK319.out 4
        have hfz15_5 := blk_frozen BK319.out 5
        have hfz15_6 := blk_frozen BK319.out 6
        have hfz15_7 := blk_frozen BK319.out 7
        have hfz15_8 := blk_frozen BK319.out 8
        have hfz15_9 := blk_frozen BK319.out 9
        have hfz15_10 := blk_frozen BK319.out 10
        have hfz15_11 := blk_frozen BK319.out 11
        have hfz15_12 := blk_frozen BK319.out 12
        have hfz15_13 := blk_frozen BK319.out 13
        have hfz15_14 := blk_frozen BK319.out 14
        have hfz15_15 := blk_frozen BK319.out 15
        have hfz15_16 := blk_frozen BK319.out 16
        have hfz15_17 := blk_frozen BK319.out 17
        have hfz15_18 := blk_frozen BK319.out 18
        have hfz15_19 := blk_frozen BK319.out 19
        have hfz15_20 := blk_frozen BK319.out 20
        go_wp2_with (first | ((with_reducible refine gate_store (t := 51) rfl ?_); refine wpList_store_row rfl 51 _ _ rfl _ _ rfl rfl 51 _ (by first | exact blk_new _ _ | exact blk_alloc (blk_new _ _) _) (by kernel_rfl) rfl (by simp [Value.oneCell']) ?_; (first | rw [Own.alloc_setRow] | rw [Own.alloc2_setRow0] | rw [Own.alloc2_setRow1])))
        go_ret
        exact ⟨by first | rfl | (simp [errW_none, errW_some] <;> rfl) | (simp [*, errW_none, errW_some] <;> rfl), by repeat (first | (with_reducible first | exact HB.out | apply below_alloc | apply pw_below_drewN | apply below_drew1 | refine below_set ?_ GE319.out) | exact HB.out)⟩
      · replace c14 := Bool.eq_false_iff.mpr c14
        subst c14
        have H1 : (if t309 = true then (some t310) else ((head_All.f kj6 l2 (⟨#[69, 120, 112, 105, 114, 101, 115]⟩ : ByteArray)).bind fun t321 => (if (t321.length : Int) > 0 then ((age_one.f kj6 l2 (⟨#[69, 120, 112, 105, 114, 101, 115]⟩ : ByteArray) a3).bind fun bt324 => (if bt324.2 = true then ((bits_Sub.f bt324.1 t320).bind fun t326 => (some t326)) else (some 0))) else ((age_one.f kj6 l2 (⟨#[76, 97, 115, 116, 45, 77, 111, 100, 105, 102, 105, 101, 100]⟩ : ByteArray) a3).bind fun bt327 => (if bt327.2 = true then ((age_Usual.f a1).bind fun t329 => (if t329 = true then ((bits_Sub.f t320 bt327.1).bind fun t330 => (some (mn (wrap64 (Int.tdiv t330 10)) 604800))) else (some 0))) else (some 0)))))) = some r := by rw [if_neg (show ¬ (false = true) by decide)] at H; exact H
        clear H
        have H := H1
        clear H1
        by_cases c16 : t309 = true
        · subst c16
          have H1 : (some t310) = some r := by rw [if_pos rfl] at H; exact H
          clear H
          have H := H1
          clear H1
          obtain rfl := Option.some.inj H
          have hcz17_0 : wc.cell? ⟨gb319, 0, none⟩ = some (.bool t298) := (blk_cell BK319.out 0).trans rfl
          have hcz17_1 : wc.cell? ⟨gb319, 1, none⟩ = some (.bool t299) := (blk_cell BK319.out 1).trans rfl
          have hcz17_2 : wc.cell? ⟨gb319, 2, none⟩ = some (.bool t300) := (blk_cell BK319.out 2).trans rfl
          have hcz17_3 : wc.cell? ⟨gb319, 3, none⟩ = some (.bool t301) := (blk_cell BK319.out 3).trans rfl
          have hcz17_4 : wc.cell? ⟨gb319, 4, none⟩ = some (.bool t302) := (blk_cell BK319.out 4).trans rfl
          have hcz17_5 : wc.cell? ⟨gb319, 5, none⟩ = some (.bool t303) := (blk_cell BK319.out 5).trans rfl
          have hcz17_6 : wc.cell? ⟨gb319, 6, none⟩ = some (.bool t304) := (blk_cell BK319.out 6).trans rfl
          have hcz17_7 : wc.cell? ⟨gb319, 7, none⟩ = some (.bool t305) := (blk_cell BK319.out 7).trans rfl
          have hcz17_8 : wc.cell? ⟨gb319, 8, none⟩ = some (.bool t306) := (blk_cell BK319.out 8).trans rfl
          have hcz17_9 : wc.cell? ⟨gb319, 9, none⟩ = some (.bool t307) := (blk_cell BK319.out 9).trans rfl
          have hcz17_10 : wc.cell? ⟨gb319, 10, none⟩ = some (.bool t308) := (blk_cell BK319.out 10).trans rfl
          have hcz17_11 : wc.cell? ⟨gb319, 11, none⟩ = some (.bool true) := (blk_cell BK319.out 11).trans rfl
          have hcz17_12 : wc.cell? ⟨gb319, 12, none⟩ = some (.int .i64 t310) := (blk_cell BK319.out 12).trans rfl
          have hcz17_13 : wc.cell? ⟨gb319, 13, none⟩ = some (.bool t311) := (blk_cell BK319.out 13).trans rfl
          have hcz17_14 : wc.cell? ⟨gb319, 14, none⟩ = some (.int .i64 t312) := (blk_cell BK319.out 14).trans rfl
          have hcz17_15 : wc.cell? ⟨gb319, 15, none⟩ = some (.bool t313) := (blk_cell BK319.out 15).trans rfl
          have hcz17_16 : wc.cell? ⟨gb319, 16, none⟩ = some (.int .i64 t314) := (blk_cell BK319.out 16).trans rfl
          have hcz17_17 : wc.cell? ⟨gb319, 17, none⟩ = some (.bool t315) := (blk_cell BK319.out 17).trans rfl
          have hcz17_18 : wc.cell? ⟨gb319, 18, none⟩ = some (.int .i64 t316) := (blk_cell BK319.out 18).trans rfl
          have hcz17_19 : wc.cell? ⟨gb319, 19, none⟩ = some (.bool t317) := (blk_cell BK319.out 19).trans rfl
          have hcz17_20 : wc.cell? ⟨gb319, 20, none⟩ = some (.int .i64 t318) := (blk_cell BK319.out 20).trans rfl
          have hfz17_0 := blk_frozen BK319.out 0
          have hfz17_1 := blk_frozen BK319.out 1
          have hfz17_2 := blk_frozen BK319.out 2
          have hfz17_3 := blk_frozen BK319.out 3
          have hfz17_4 := blk_frozen BK319.out 4
          have hfz17_5 := blk_frozen BK319.out 5
          have hfz17_6 := blk_frozen BK319.out 6
          have hfz17_7 := blk_frozen BK319.out 7
          have hfz17_8 := blk_frozen BK319.out 8
          have hfz17_9 := blk_frozen BK319.out 9
          have hfz17_10 := blk_frozen BK319.out 10
          have hfz17_11 := blk_frozen BK319.out 11
          have hfz17_12 := blk_frozen BK319.out 12
          have hfz17_13 := blk_frozen BK319.out 13
          have hfz17_14 := blk_frozen BK319.out 14
          have hfz17_15 := blk_frozen BK319.out 15
          have hfz17_16 := blk_frozen BK319.out 16
          have hfz17_17 := blk_frozen BK319.out 17
          have hfz17_18 := blk_frozen BK319.out 18
          have hfz17_19 := blk_frozen BK319.out 19
          have hfz17_20 := blk_frozen BK319.out 20
          go_wp2_with (first | ((with_reducible refine gate_store (t := 51) rfl ?_); refine wpList_store_row rfl 51 _ _ rfl _ _ rfl rfl 51 _ (by first | exact blk_new _ _ | exact blk_alloc (blk_new _ _) _) (by kernel_rfl) rfl (by simp [Value.oneCell']) ?_; (first | rw [Own.alloc_setRow] | rw [Own.alloc2_setRow0] | rw [Own.alloc2_setRow1])))
          go_ret
          exact ⟨by first | rfl | (simp [errW_none, errW_some] <;> rfl) | (simp [*, errW_none, errW_some] <;> rfl), by repeat (first | (with_reducible first | exact HB.out | apply below_alloc | apply pw_below_drewN | apply below_drew1 | refine below_set ?_ GE319.out) | exact HB.out)⟩
        · replace c16 := Bool.eq_false_iff.mpr c16
          subst c16
          have H1 : ((head_All.f kj6 l2 (⟨#[69, 120, 112, 105, 114, 101, 115]⟩ : ByteArray)).bind fun t321 => (if (t321.length : Int) > 0 then ((age_one.f kj6 l2 (⟨#[69, 120, 112, 105, 114, 101, 115]⟩ : ByteArray) a3).bind fun bt324 => (if bt324.2 = true then ((bits_Sub.f bt324.1 t320).bind fun t326 => (some t326)) else (some 0))) else ((age_one.f kj6 l2 (⟨#[76, 97, 115, 116, 45, 77, 111, 100, 105, 102, 105, 101, 100]⟩ : ByteArray) a3).bind fun bt327 => (if bt327.2 = true then ((age_Usual.f a1).bind fun t329 => (if t329 = true then ((bits_Sub.f t320 bt327.1).bind fun t330 => (some (mn (wrap64 (Int.tdiv t330 10)) 604800))) else (some 0))) else (some 0))))) = some r := by rw [if_neg (show ¬ (false = true) by decide)] at H; exact H
          clear H
          have H := H1
          clear H1
          replace H := Option.bind_eq_some_iff.mp H
          obtain ⟨t321, A180, H⟩ := H
          replace H : (if (t321.length : Int) > 0 then ((age_one.f kj6 l2 (⟨#[69, 120, 112, 105, 114, 101, 115]⟩ : ByteArray) a3).bind fun bt324 => (if bt324.2 = true then ((bits_Sub.f bt324.1 t320).bind fun t326 => (some t326)) else (some 0))) else ((age_one.f kj6 l2 (⟨#[76, 97, 115, 116, 45, 77, 111, 100, 105, 102, 105, 101, 100]⟩ : ByteArray) a3).bind fun bt327 => (if bt327.2 = true then ((age_Usual.f a1).bind fun t329 => (if t329 = true then ((bits_Sub.f t320 bt327.1).bind fun t330 => (some (mn (wrap64 (Int.tdiv t330 10)) 604800))) else (some 0))) else (some 0)))) = some r := H
          have A18 := Aside0.mk A180
          clear A180
          by_cases c19 : (t321.length : Int) > 0
          · rw [if_pos c19] at H
            have c19b0 : decide (0 < (t321.length : Int)) = true := decide_eq_true c19
            have c19b1 : decide (0 < t321.length) = true := decide_eq_true (by omega)
            clear c19
            replace H := Option.bind_eq_some_iff.mp H
            obtain ⟨⟨t324, t325⟩, A200, H⟩ := H
            replace H : (if t325 = true then ((bits_Sub.f t324 t320).bind fun t326 => (some t326)) else (some 0)) = some r := H
            have A20 := Aside0.mk A200
            clear A200
            by_cases c21 : t325 = true
            · subst c21
              have H1 : ((bits_Sub.f t324 t320).bind fun t326 => (some t326)) = some r := by rw [if_pos rfl] at H; exact H
              clear H
              have H := H1
              clear H1
              replace H := Option.bind_eq_some_iff.mp H
              obtain ⟨t326, A220, H⟩ := H
              replace H : (some t326) = some r := H
              have A22 := Aside0.mk A220
              clear A220
              obtain rfl := Option.some.inj H
              have hcz23_0 : wc.cell? ⟨gb319, 0, none⟩ = some (.bool t298) := (blk_cell BK319.out 0).trans rfl
              have hcz23_1 : wc.cell? ⟨gb319, 1, none⟩ = some (.bool t299) := (blk_cell BK319.out 1).trans rfl
              have hcz23_2 : wc.cell? ⟨gb319, 2, none⟩ = some (.bool t300) := (blk_cell BK319.out 2).trans rfl
              have hcz23_3 : wc.cell? ⟨gb319, 3, none⟩ = some (.bool t301) := (blk_cell BK319.out 3).trans rfl
              have hcz23_4 : wc.cell? ⟨gb319, 4, none⟩ = some (.bool t302) := (blk_cell BK319.out 4).trans rfl
              have hcz23_5 : wc.cell? ⟨gb319, 5, none⟩ = some (.bool t303) := (blk_cell BK319.out 5).trans rfl
              have hcz23_6 : wc.cell? ⟨gb319, 6, none⟩ = some (.bool t304) := (blk_cell BK319.out 6).trans rfl
              have hcz23_7 : wc.cell? ⟨gb319, 7, none⟩ = some (.bool t305) := (blk_cell BK319.out 7).trans rfl
              have hcz23_8 : wc.cell? ⟨gb319, 8, none⟩ = some (.bool t306) := (blk_cell BK319.out 8).trans rfl
              have hcz23_9 : wc.cell? ⟨gb319, 9, none⟩ = some (.bool t307) := (blk_cell BK319.out 9).trans rfl
              have hcz23_10 : wc.cell? ⟨gb319, 10, none⟩ = some (.bool t308) := (blk_cell BK319.out 10).trans rfl
              have hcz23_11 : wc.cell? ⟨gb319, 11, none⟩ = some (.bool false) := (blk_cell BK319.out 11).trans rfl
              have hcz23_12 : wc.cell? ⟨gb319, 12, none⟩ = some (.int .i64 t310) := (blk_cell BK319.out 12).trans rfl
              have hcz23_13 : wc.cell? ⟨gb319, 13, none⟩ = some (.bool t311) := (blk_cell BK319.out 13).trans rfl
              have hcz23_14 : wc.cell? ⟨gb319, 14, none⟩ = some (.int .i64 t312) := (blk_cell BK319.out 14).trans rfl
              have hcz23_15 : wc.cell? ⟨gb319, 15, none⟩ = some (.bool t313) := (blk_cell BK319.out 15).trans rfl
              have hcz23_16 : wc.cell? ⟨gb319, 16, none⟩ = some (.int .i64 t314) := (blk_cell BK319.out 16).trans rfl
              have hcz23_17 : wc.cell? ⟨gb319, 17, none⟩ = some (.bool t315) := (blk_cell BK319.out 17).trans rfl
              have hcz23_18 : wc.cell? ⟨gb319, 18, none⟩ = some (.int .i64 t316) := (blk_cell BK319.out 18).trans rfl
              have hcz23_19 : wc.cell? ⟨gb319, 19, none⟩ = some (.bool t317) := (blk_cell BK319.out 19).trans rfl
              have hcz23_20 : wc.cell? ⟨gb319, 20, none⟩ = some (.int .i64 t318) := (blk_cell BK319.out 20).trans rfl
              have hfz23_0 := blk_frozen BK319.out 0
              have hfz23_1 := blk_frozen BK319.out 1
              have hfz23_2 := blk_frozen BK319.out 2
              have hfz23_3 := blk_frozen BK319.out 3
              have hfz23_4 := blk_frozen BK319.out 4
              have hfz23_5 := blk_frozen BK319.out 5
              have hfz23_6 := blk_frozen BK319.out 6
              have hfz23_7 := blk_frozen BK319.out 7
              have hfz23_8 := blk_frozen BK319.out 8
              have hfz23_9 := blk_frozen BK319.out 9
              have hfz23_10 := blk_frozen BK319.out 10
              have hfz23_11 := blk_frozen BK319.out 11
              have hfz23_12 := blk_frozen BK319.out 12
              have hfz23_13 := blk_frozen BK319.out 13
              have hfz23_14 := blk_frozen BK319.out 14
              have hfz23_15 := blk_frozen BK319.out 15
              have hfz23_16 := blk_frozen BK319.out 16
              have hfz23_17 := blk_frozen BK319.out 17
              have hfz23_18 := blk_frozen BK319.out 18
              have hfz23_19 := blk_frozen BK319.out 19
              have hfz23_20 := blk_frozen BK319.out 20
              go_wp2_with (first | ((with_reducible refine gate_store (t := 51) rfl ?_); refine wpList_store_row rfl 51 _ _ rfl _ _ rfl rfl 51 _ (by first | exact blk_new _ _ | exact blk_alloc (blk_new _ _) _) (by kernel_rfl) rfl (by simp [Value.oneCell']) ?_; (first | rw [Own.alloc_setRow] | rw [Own.alloc2_setRow0] | rw [Own.alloc2_setRow1])) | ((with_reducible refine gate_callee (f := 16) rfl ?_); refine goesL_ (some 39) rfl rfl Tryd.func16 (by kernel_rfl) rfl #[.slice A2 l2.length c2, .string (⟨#[69, 120, 112, 105, 114, 101, 115]⟩ : ByteArray)] rfl (by (try simp only [List.map_toArray, List.map_cons, List.map_nil]); first | done | rfl | (simp only [List.length_drop, List.length_take]; rfl)) ?_; (with_reducible refine (head_All.calls kj6 _ _ l2 (⟨#[69, 120, 112, 105, 114, 101, 115]⟩ : ByteArray) t321 _ ?side1 ?side2 A18.out).mono ?_); (case side1 => repeat (first | exact (Kd.C_below HR2.out HB.out) | (with_reducible refine Kd.C_alloc ?_ _) | (with_reducible refine Kd.C_drewN ?_ _) | (with_reducible refine Kd.C_drew ?_))); (case side2 => exact HC2.out); rintro e w24 ⟨v322, rfl, ho0, hb⟩; refine ⟨_, rfl, ?_⟩; have n0_ := Aside0.mk (Kd.R_lower ho0 (below_size (by repeat (first | (with_reducible first | exact HB.out | apply below_alloc | apply pw_below_drewN | apply below_drew1 | refine below_set ?_ GE319.out) | exact HB.out)))); have n1_ := Aside0.mk (blk_below (g := gb319) (o := .cells #[.bool t298, .bool t299, .bool t300, .bool t301, .bool t302, .bool t303, .bool t304, .bool t305, .bool t306, .bool t307, .bool t308, .bool false, .int .i64 t310, .bool t311, .int .i64 t312, .bool t313, .int .i64 t314, .bool t315, .int .i64 t316, .bool t317, .int .i64 t318] 51 (0, 0)) (by (with_reducible repeat (first | refine blk_drewN ?_ _ | refine blk_drew ?_ | refine blk_alloc ?_ _)); exact BK319.out) hb); have n2_ := Aside0.mk (below_step (by repeat (first | (with_reducible first | exact HB.out | apply below_alloc | apply pw_below_drewN | apply below_drew1 | refine below_set ?_ GE319.out) | exact HB.out)) hb); clear BK319; clear HB; have HO323 := n0_; have BK319 := n1_; have HB := n2_; clear n0_ n1_ n2_; (try clear hb); (try clear hb2); (try clear hk); (try clear hi); (try clear ho0); obtain ⟨Ao25, co25, eo25⟩ := Kd.R_slice HO323.out; subst eo25) | ((with_reducible refine gate_callee (f := 28) rfl ?_); refine goesL_ (some 45) rfl rfl Tryd.func28 (by kernel_rfl) rfl #[.slice A2 l2.length c2, .string (⟨#[69, 120, 112, 105, 114, 101, 115]⟩ : ByteArray), .int .i64 a3] rfl (by (try simp only [List.map_toArray, List.map_cons, List.map_nil]); first | done | rfl | (simp only [List.length_drop, List.length_take]; rfl)) ?_; (with_reducible refine (age_one.calls kj6 _ _ l2 (⟨#[69, 120, 112, 105, 114, 101, 115]⟩ : ByteArray) a3 t324 true _ ?side1 ?side2 A20.out).mono ?_); (case side1 => repeat (first | exact (Kd.C_below HR2.out HB.out) | (with_reducible refine Kd.C_alloc ?_ _) | (with_reducible refine Kd.C_drewN ?_ _) | (with_reducible refine Kd.C_drew ?_))); (case side2 => exact HC2.out); rintro e w26 ⟨rfl, hb⟩; refine ⟨_, rfl, ?_⟩; have n0_ := Aside0.mk (Kd.R_below (by (with_reducible repeat (first | apply Kd.R_alloc | apply Kd.R_drewN | apply Kd.R_drew)); exact HO323.out) hb); have n1_ := Aside0.mk (blk_below (g := gb319) (o := .cells #[.bool t298, .bool t299, .bool t300, .bool t301, .bool t302, .bool t303, .bool t304, .bool t305, .bool t306, .bool t307, .bool t308, .bool false, .int .i64 t310, .bool t311, .int .i64 t312, .bool t313, .int .i64 t314, .bool t315, .int .i64 t316, .bool t317, .int .i64 t318] 51 (0, 0)) (by (with_reducible repeat (first | refine blk_drewN ?_ _ | refine blk_drew ?_ | refine blk_alloc ?_ _)); exact BK319.out) hb); have n2_ := Aside0.mk (below_step (by repeat (first | (with_reducible first | exact HB.out | apply below_alloc | apply pw_below_drewN | apply below_drew1 | refine below_set ?_ GE319.out) | exact HB.out)) hb); clear HO323; clear BK319; clear HB; have HO323 := n0_; have BK319 := n1_; have HB := n2_; clear n0_ n1_ n2_; (try clear hb); (try clear hb2); (try clear hk); (try clear hi)) | ((with_reducible refine gate_callee (f := 25) rfl ?_); refine goesL_ (some 52) rfl rfl Tryd.func25 (by kernel_rfl) rfl #[.int .i64 t324, .int .i64 t320] rfl (by (try simp only [List.map_toArray, List.map_cons, List.map_nil]); first | done | rfl | (simp only [List.length_drop, List.length_take]; rfl)) ?_; (with_reducible refine (bits_Sub.calls t324 t320 t326 _ A22.out).mono ?_); rintro e w27 ⟨rfl, hb⟩; refine ⟨_, rfl, ?_⟩; have n0_ := Aside0.mk (Kd.R_below (by (with_reducible repeat (first | apply Kd.R_alloc | apply Kd.R_drewN | apply Kd.R_drew)); exact HO323.out) hb); have n1_ := Aside0.mk (blk_below (g := gb319) (o := .cells #[.bool t298, .bool t299, .bool t300, .bool t301, .bool t302, .bool t303, .bool t304, .bool t305, .bool t306, .bool t307, .bool t308, .bool false, .int .i64 t310, .bool t311, .int .i64 t312, .bool t313, .int .i64 t314, .bool t315, .int .i64 t316, .bool t317, .int .i64 t318] 51 (0, 0)) (by (with_reducible repeat (first | refine blk_drewN ?_ _ | refine blk_drew ?_ | refine blk_alloc ?_ _)); exact BK319.out) hb); have n2_ := Aside0.mk (below_step (by repeat (first | (with_reducible first | exact HB.out | apply below_alloc | apply pw_below_drewN | apply below_drew1 | refine below_set ?_ GE319.out) | exact HB.out)) hb); clear HO323; clear BK319; clear HB; have HO323 := n0_; have BK319 := n1_; have HB := n2_; clear n0_ n1_ n2_; (try clear hb); (try clear hb2); (try clear hk); (try clear hi)))
              go_ret
              exact ⟨by first | rfl | (simp [errW_none, errW_some] <;> rfl) | (simp [*, errW_none, errW_some] <;> rfl), by repeat (first | (with_reducible first | exact HB.out | apply below_alloc | apply pw_below_drewN | apply below_drew1 | refine below_set ?_ GE319.out) | exact HB.out)⟩
            · replace c21 := Bool.eq_false_iff.mpr c21
              subst c21
              have H1 : (some 0) = some r := by rw [if_neg (show ¬ (false = true) by decide)] at H; exact H
              clear H
              have H := H1
              clear H1
              obtain rfl := Option.some.inj H
              have hcz28_0 : wc.cell? ⟨gb319, 0, none⟩ = some (.bool t298) := (blk_cell BK319.out 0).trans rfl
              have hcz28_1 : wc.cell? ⟨gb319, 1, none⟩ = some (.bool t299) := (blk_cell BK319.out 1).trans rfl
              have hcz28_2 : wc.cell? ⟨gb319, 2, none⟩ = some (.bool t300) := (blk_cell BK319.out 2).trans rfl
              have hcz28_3 : wc.cell? ⟨gb319, 3, none⟩ = some (.bool t301) := (blk_cell BK319.out 3).trans rfl
              have hcz28_4 : wc.cell? ⟨gb319, 4, none⟩ = some (.bool t302) := (blk_cell BK319.out 4).trans rfl
              have hcz28_5 : wc.cell? ⟨gb319, 5, none⟩ = some (.bool t303) := (blk_cell BK319.out 5).trans rfl
              have hcz28_6 : wc.cell? ⟨gb319, 6, none⟩ = some (.bool t304) := (blk_cell BK319.out 6).trans rfl
              have hcz28_7 : wc.cell? ⟨gb319, 7, none⟩ = some (.bool t305) := (blk_cell BK319.out 7).trans rfl
              have hcz28_8 : wc.cell? ⟨gb319, 8, none⟩ = some (.bool t306) := (blk_cell BK319.out 8).trans rfl
              have hcz28_9 : wc.cell? ⟨gb319, 9, none⟩ = some (.bool t307) := (blk_cell BK319.out 9).trans rfl
              have hcz28_10 : wc.cell? ⟨gb319, 10, none⟩ = some (.bool t308) := (blk_cell BK319.out 10).trans rfl
              have hcz28_11 : wc.cell? ⟨gb319, 11, none⟩ = some (.bool false) := (blk_cell BK319.out 11).trans rfl
              have hcz28_12 : wc.cell? ⟨gb319, 12, none⟩ = some (.int .i64 t310) := (blk_cell BK319.out 12).trans rfl
              have hcz28_13 : wc.cell? ⟨gb319, 13, none⟩ = some (.bool t311) := (blk_cell BK319.out 13).trans rfl
              have hcz28_14 : wc.cell? ⟨gb319, 14, none⟩ = some (.int .i64 t312) := (blk_cell BK319.out 14).trans rfl
              have hcz28_15 : wc.cell? ⟨gb319, 15, none⟩ = some (.bool t313) := (blk_cell BK319.out 15).trans rfl
              have hcz28_16 : wc.cell? ⟨gb319, 16, none⟩ = some (.int .i64 t314) := (blk_cell BK319.out 16).trans rfl
              have hcz28_17 : wc.cell? ⟨gb319, 17, none⟩ = some (.bool t315) := (blk_cell BK319.out 17).trans rfl
              have hcz28_18 : wc.cell? ⟨gb319, 18, none⟩ = some (.int .i64 t316) := (blk_cell BK319.out 18).trans rfl
              have hcz28_19 : wc.cell? ⟨gb319, 19, none⟩ = some (.bool t317) := (blk_cell BK319.out 19).trans rfl
              have hcz28_20 : wc.cell? ⟨gb319, 20, none⟩ = some (.int .i64 t318) := (blk_cell BK319.out 20).trans rfl
              have hfz28_0 := blk_frozen BK319.out 0
              have hfz28_1 := blk_frozen BK319.out 1
              have hfz28_2 := blk_frozen BK319.out 2
              have hfz28_3 := blk_frozen BK319.out 3
              have hfz28_4 := blk_frozen BK319.out 4
              have hfz28_5 := blk_frozen BK319.out 5
              have hfz28_6 := blk_frozen BK319.out 6
              have hfz28_7 := blk_frozen BK319.out 7
              have hfz28_8 := blk_frozen BK319.out 8
              have hfz28_9 := blk_frozen BK319.out 9
              have hfz28_10 := blk_frozen BK319.out 10
              have hfz28_11 := blk_frozen BK319.out 11
              have hfz28_12 := blk_frozen BK319.out 12
              have hfz28_13 := blk_frozen BK319.out 13
              have hfz28_14 := blk_frozen BK319.out 14
              have hfz28_15 := blk_frozen BK319.out 15
              have hfz28_16 := blk_frozen BK319.out 16
              have hfz28_17 := blk_frozen BK319.out 17
              have hfz28_18 := blk_frozen BK319.out 18
              have hfz28_19 := blk_frozen BK319.out 19
              have hfz28_20 := blk_frozen BK319.out 20
              go_wp2_with (first | ((with_reducible refine gate_store (t := 51) rfl ?_); refine wpList_store_row rfl 51 _ _ rfl _ _ rfl rfl 51 _ (by first | exact blk_new _ _ | exact blk_alloc (blk_new _ _) _) (by kernel_rfl) rfl (by simp [Value.oneCell']) ?_; (first | rw [Own.alloc_setRow] | rw [Own.alloc2_setRow0] | rw [Own.alloc2_setRow1])) | ((with_reducible refine gate_callee (f := 16) rfl ?_); refine goesL_ (some 39) rfl rfl Tryd.func16 (by kernel_rfl) rfl #[.slice A2 l2.length c2, .string (⟨#[69, 120, 112, 105, 114, 101, 115]⟩ : ByteArray)] rfl (by (try simp only [List.map_toArray, List.map_cons, List.map_nil]); first | done | rfl | (simp only [List.length_drop, List.length_take]; rfl)) ?_; (with_reducible refine (head_All.calls kj6 _ _ l2 (⟨#[69, 120, 112, 105, 114, 101, 115]⟩ : ByteArray) t321 _ ?side1 ?side2 A18.out).mono ?_); (case side1 => repeat (first | exact (Kd.C_below HR2.out HB.out) | (with_reducible refine Kd.C_alloc ?_ _) | (with_reducible refine Kd.C_drewN ?_ _) | (with_reducible refine Kd.C_drew ?_))); (case side2 => exact HC2.out); rintro e w29 ⟨v322, rfl, ho0, hb⟩; refine ⟨_, rfl, ?_⟩; have n0_ := Aside0.mk (Kd.R_lower ho0 (below_size (by repeat (first | (with_reducible first | exact HB.out | apply below_alloc | apply pw_below_drewN | apply below_drew1 | refine below_set ?_ GE319.out) | exact HB.out)))); have n1_ := Aside0.mk (blk_below (g := gb319) (o := .cells #[.bool t298, .bool t299, .bool t300, .bool t301, .bool t302, .bool t303, .bool t304, .bool t305, .bool t306, .bool t307, .bool t308, .bool false, .int .i64 t310, .bool t311, .int .i64 t312, .bool t313, .int .i64 t314, .bool t315, .int .i64 t316, .bool t317, .int .i64 t318] 51 (0, 0)) (by (with_reducible repeat (first | refine blk_drewN ?_ _ | refine blk_drew ?_ | refine blk_alloc ?_ _)); exact BK319.out) hb); have n2_ := Aside0.mk (below_step (by repeat (first | (with_reducible first | exact HB.out | apply below_alloc | apply pw_below_drewN | apply below_drew1 | refine below_set ?_ GE319.out) | exact HB.out)) hb); clear BK319; clear HB; have HO323 := n0_; have BK319 := n1_; have HB := n2_; clear n0_ n1_ n2_; (try clear hb); (try clear hb2); (try clear hk); (try clear hi); (try clear ho0); obtain ⟨Ao30, co30, eo30⟩ := Kd.R_slice HO323.out; subst eo30) | ((with_reducible refine gate_callee (f := 28) rfl ?_); refine goesL_ (some 45) rfl rfl Tryd.func28 (by kernel_rfl) rfl #[.slice A2 l2.length c2, .string (⟨#[69, 120, 112, 105, 114, 101, 115]⟩ : ByteArray), .int .i64 a3] rfl (by (try simp only [List.map_toArray, List.map_cons, List.map_nil]); first | done | rfl | (simp only [List.length_drop, List.length_take]; rfl)) ?_; (with_reducible refine (age_one.calls kj6 _ _ l2 (⟨#[69, 120, 112, 105, 114, 101, 115]⟩ : ByteArray) a3 t324 false _ ?side1 ?side2 A20.out).mono ?_); (case side1 => repeat (first | exact (Kd.C_below HR2.out HB.out) | (with_reducible refine Kd.C_alloc ?_ _) | (with_reducible refine Kd.C_drewN ?_ _) | (with_reducible refine Kd.C_drew ?_))); (case side2 => exact HC2.out); rintro e w31 ⟨rfl, hb⟩; refine ⟨_, rfl, ?_⟩; have n0_ := Aside0.mk (Kd.R_below (by (with_reducible repeat (first | apply Kd.R_alloc | apply Kd.R_drewN | apply Kd.R_drew)); exact HO323.out) hb); have n1_ := Aside0.mk (blk_below (g := gb319) (o := .cells #[.bool t298, .bool t299, .bool t300, .bool t301, .bool t302, .bool t303, .bool t304, .bool t305, .bool t306, .bool t307, .bool t308, .bool false, .int .i64 t310, .bool t311, .int .i64 t312, .bool t313, .int .i64 t314, .bool t315, .int .i64 t316, .bool t317, .int .i64 t318] 51 (0, 0)) (by (with_reducible repeat (first | refine blk_drewN ?_ _ | refine blk_drew ?_ | refine blk_alloc ?_ _)); exact BK319.out) hb); have n2_ := Aside0.mk (below_step (by repeat (first | (with_reducible first | exact HB.out | apply below_alloc | apply pw_below_drewN | apply below_drew1 | refine below_set ?_ GE319.out) | exact HB.out)) hb); clear HO323; clear BK319; clear HB; have HO323 := n0_; have BK319 := n1_; have HB := n2_; clear n0_ n1_ n2_; (try clear hb); (try clear hb2); (try clear hk); (try clear hi)))
              go_ret
              exact ⟨by first | rfl | (simp [errW_none, errW_some] <;> rfl) | (simp [*, errW_none, errW_some] <;> rfl), by repeat (first | (with_reducible first | exact HB.out | apply below_alloc | apply pw_below_drewN | apply below_drew1 | refine below_set ?_ GE319.out) | exact HB.out)⟩
          · rw [if_neg c19] at H
            have c19b0 : decide (0 < (t321.length : Int)) = false := decide_eq_false c19
            have c19b1 : decide (0 < t321.length) = false := decide_eq_false (by omega)
            clear c19
            replace H := Option.bind_eq_some_iff.mp H
            obtain ⟨⟨t327, t328⟩, A320, H⟩ := H
            replace H : (if t328 = true then ((age_Usual.f a1).bind fun t329 => (if t329 = true then ((bits_Sub.f t320 t327).bind fun t330 => (some (mn (wrap64 (Int.tdiv t330 10)) 604800))) else (some 0))) else (some 0)) = some r := H
            have A32 := Aside0.mk A320
            clear A320
            by_cases c33 : t328 = true
            · subst c33
              have H1 : ((age_Usual.f a1).bind fun t329 => (if t329 = true then ((bits_Sub.f t320 t327).bind fun t330 => (some (mn (wrap64 (Int.tdiv t330 10)) 604800))) else (some 0))) = some r := by rw [if_pos rfl] at H; exact H
              clear H
              have H := H1
              clear H1
              replace H := Option.bind_eq_some_iff.mp H
              obtain ⟨t329, A340, H⟩ := H
              replace H : (if t329 = true then ((bits_Sub.f t320 t327).bind fun t330 => (some (mn (wrap64 (Int.tdiv t330 10)) 604800))) else (some 0)) = some r := H
              have A34 := Aside0.mk A340
              clear A340
              by_cases c35 : t329 = true
              · subst c35
                have H1 : ((bits_Sub.f t320 t327).bind fun t330 => (some (mn (wrap64 (Int.tdiv t330 10)) 604800))) = some r := by rw [if_pos rfl] at H; exact H
                clear H
                have H := H1
                clear H1
                replace H := Option.bind_eq_some_iff.mp H
                obtain ⟨t330, A360, H⟩ := H
                replace H : (some (mn (wrap64 (Int.tdiv t330 10)) 604800)) = some r := H
                have A36 := Aside0.mk A360
                clear A360
                obtain ⟨ji37, hji37⟩ : ∃ j_ : Int, (mn (wrap64 (Int.tdiv t330 10)) 604800) = j_ := ⟨_, rfl⟩
                replace H : (some ji37) = some r := by first | (rw [hji37] at H; exact H) | (simp only [hji37] at H ⊢; exact H)
                (try rw [hji37] at A18)
                (try rw [hji37] at A32)
                (try rw [hji37] at A34)
                (try rw [hji37] at A36)
                (try (have hji37h : ji37 ≤ 604800 := by (rw [← hji37]; unfold mn; (repeat' split) <;> omega)))
                (try (have hji37g : ji37 ≤ 64 := by omega))
                have hji37_ : (if 604800 < (wrap64 (Int.tdiv t330 10)) then 604800 else (wrap64 (Int.tdiv t330 10))) = ji37 := hji37
                obtain rfl := Option.some.inj H
                have hcz38_0 : wc.cell? ⟨gb319, 0, none⟩ = some (.bool t298) := (blk_cell BK319.out 0).trans rfl
                have hcz38_1 : wc.cell? ⟨gb319, 1, none⟩ = some (.bool t299) := (blk_cell BK319.out 1).trans rfl
                have hcz38_2 : wc.cell? ⟨gb319, 2, none⟩ = some (.bool t300) := (blk_cell BK319.out 2).trans rfl
                have hcz38_3 : wc.cell? ⟨gb319, 3, none⟩ = some (.bool t301) := (blk_cell BK319.out 3).trans rfl
                have hcz38_4 : wc.cell? ⟨gb319, 4, none⟩ = some (.bool t302) := (blk_cell BK319.out 4).trans rfl
                have hcz38_5 : wc.cell? ⟨gb319, 5, none⟩ = some (.bool t303) := (blk_cell BK319.out 5).trans rfl
                have hcz38_6 : wc.cell? ⟨gb319, 6, none⟩ = some (.bool t304) := (blk_cell BK319.out 6).trans rfl
                have hcz38_7 : wc.cell? ⟨gb319, 7, none⟩ = some (.bool t305) := (blk_cell BK319.out 7).trans rfl
                have hcz38_8 : wc.cell? ⟨gb319, 8, none⟩ = some (.bool t306) := (blk_cell BK319.out 8).trans rfl
                have hcz38_9 : wc.cell? ⟨gb319, 9, none⟩ = some (.bool t307) := (blk_cell BK319.out 9).trans rfl
                have hcz38_10 : wc.cell? ⟨gb319, 10, none⟩ = some (.bool t308) := (blk_cell BK319.out 10).trans rfl
                have hcz38_11 : wc.cell? ⟨gb319, 11, none⟩ = some (.bool false) := (blk_cell BK319.out 11).trans rfl
                have hcz38_12 : wc.cell? ⟨gb319, 12, none⟩ = some (.int .i64 t310) := (blk_cell BK319.out 12).trans rfl
                have hcz38_13 : wc.cell? ⟨gb319, 13, none⟩ = some (.bool t311) := (blk_cell BK319.out 13).trans rfl
                have hcz38_14 : wc.cell? ⟨gb319, 14, none⟩ = some (.int .i64 t312) := (blk_cell BK319.out 14).trans rfl
                have hcz38_15 : wc.cell? ⟨gb319, 15, none⟩ = some (.bool t313) := (blk_cell BK319.out 15).trans rfl
                have hcz38_16 : wc.cell? ⟨gb319, 16, none⟩ = some (.int .i64 t314) := (blk_cell BK319.out 16).trans rfl
                have hcz38_17 : wc.cell? ⟨gb319, 17, none⟩ = some (.bool t315) := (blk_cell BK319.out 17).trans rfl
                have hcz38_18 : wc.cell? ⟨gb319, 18, none⟩ = some (.int .i64 t316) := (blk_cell BK319.out 18).trans rfl
                have hcz38_19 : wc.cell? ⟨gb319, 19, none⟩ = some (.bool t317) := (blk_cell BK319.out 19).trans rfl
                have hcz38_20 : wc.cell? ⟨gb319, 20, none⟩ = some (.int .i64 t318) := (blk_cell BK319.out 20).trans rfl
                have hfz38_0 := blk_frozen BK319.out 0
                have hfz38_1 := blk_frozen BK319.out 1
                have hfz38_2 := blk_frozen BK319.out 2
                have hfz38_3 := blk_frozen BK319.out 3
                have hfz38_4 := blk_frozen BK319.out 4
                have hfz38_5 := blk_frozen BK319.out 5
                have hfz38_6 := blk_frozen BK319.out 6
                have hfz38_7 := blk_frozen BK319.out 7
                have hfz38_8 := blk_frozen BK319.out 8
                have hfz38_9 := blk_frozen BK319.out 9
                have hfz38_10 := blk_frozen BK319.out 10
                have hfz38_11 := blk_frozen BK319.out 11
                have hfz38_12 := blk_frozen BK319.out 12
                have hfz38_13 := blk_frozen BK319.out 13
                have hfz38_14 := blk_frozen BK319.out 14
                have hfz38_15 := blk_frozen BK319.out 15
                have hfz38_16 := blk_frozen BK319.out 16
                have hfz38_17 := blk_frozen BK319.out 17
                have hfz38_18 := blk_frozen BK319.out 18
                have hfz38_19 := blk_frozen BK319.out 19
                have hfz38_20 := blk_frozen BK319.out 20
                go_wp2_with (first | ((with_reducible refine gate_store (t := 51) rfl ?_); refine wpList_store_row rfl 51 _ _ rfl _ _ rfl rfl 51 _ (by first | exact blk_new _ _ | exact blk_alloc (blk_new _ _) _) (by kernel_rfl) rfl (by simp [Value.oneCell']) ?_; (first | rw [Own.alloc_setRow] | rw [Own.alloc2_setRow0] | rw [Own.alloc2_setRow1])) | ((with_reducible refine gate_callee (f := 16) rfl ?_); refine goesL_ (some 39) rfl rfl Tryd.func16 (by kernel_rfl) rfl #[.slice A2 l2.length c2, .string (⟨#[69, 120, 112, 105, 114, 101, 115]⟩ : ByteArray)] rfl (by (try simp only [List.map_toArray, List.map_cons, List.map_nil]); first | done | rfl | (simp only [List.length_drop, List.length_take]; rfl)) ?_; (with_reducible refine (head_All.calls kj6 _ _ l2 (⟨#[69, 120, 112, 105, 114, 101, 115]⟩ : ByteArray) t321 _ ?side1 ?side2 A18.out).mono ?_); (case side1 => repeat (first | exact (Kd.C_below HR2.out HB.out) | (with_reducible refine Kd.C_alloc ?_ _) | (with_reducible refine Kd.C_drewN ?_ _) | (with_reducible refine Kd.C_drew ?_))); (case side2 => exact HC2.out); rintro e w39 ⟨v322, rfl, ho0, hb⟩; refine ⟨_, rfl, ?_⟩; have n0_ := Aside0.mk (Kd.R_lower ho0 (below_size (by repeat (first | (with_reducible first | exact HB.out | apply below_alloc | apply pw_below_drewN | apply below_drew1 | refine below_set ?_ GE319.out) | exact HB.out)))); have n1_ := Aside0.mk (blk_below (g := gb319) (o := .cells #[.bool t298, .bool t299, .bool t300, .bool t301, .bool t302, .bool t303, .bool t304, .bool t305, .bool t306, .bool t307, .bool t308, .bool false, .int .i64 t310, .bool t311, .int .i64 t312, .bool t313, .int .i64 t314, .bool t315, .int .i64 t316, .bool t317, .int .i64 t318] 51 (0, 0)) (by (with_reducible repeat (first | refine blk_drewN ?_ _ | refine blk_drew ?_ | refine blk_alloc ?_ _)); exact BK319.out) hb); have n2_ := Aside0.mk (below_step (by repeat (first | (with_reducible first | exact HB.out | apply below_alloc | apply pw_below_drewN | apply below_drew1 | refine below_set ?_ GE319.out) | exact HB.out)) hb); clear BK319; clear HB; have HO323 := n0_; have BK319 := n1_; have HB := n2_; clear n0_ n1_ n2_; (try clear hb); (try clear hb2); (try clear hk); (try clear hi); (try clear ho0); obtain ⟨Ao40, co40, eo40⟩ := Kd.R_slice HO323.out; subst eo40) | ((with_reducible refine gate_callee (f := 28) rfl ?_); refine goesL_ (some 56) rfl rfl Tryd.func28 (by kernel_rfl) rfl #[.slice A2 l2.length c2, .string (⟨#[76, 97, 115, 116, 45, 77, 111, 100, 105, 102, 105, 101, 100]⟩ : ByteArray), .int .i64 a3] rfl (by (try simp only [List.map_toArray, List.map_cons, List.map_nil]); first | done | rfl | (simp only [List.length_drop, List.length_take]; rfl)) ?_; (with_reducible refine (age_one.calls kj6 _ _ l2 (⟨#[76, 97, 115, 116, 45, 77, 111, 100, 105, 102, 105, 101, 100]⟩ : ByteArray) a3 t327 true _ ?side1 ?side2 A32.out).mono ?_); (case side1 => repeat (first | exact (Kd.C_below HR2.out HB.out) | (with_reducible refine Kd.C_alloc ?_ _) | (with_reducible refine Kd.C_drewN ?_ _) | (with_reducible refine Kd.C_drew ?_))); (case side2 => exact HC2.out); rintro e w41 ⟨rfl, hb⟩; refine ⟨_, rfl, ?_⟩; have n0_ := Aside0.mk (Kd.R_below (by (with_reducible repeat (first | apply Kd.R_alloc | apply Kd.R_drewN | apply Kd.R_drew)); exact HO323.out) hb); have n1_ := Aside0.mk (blk_below (g := gb319) (o := .cells #[.bool t298, .bool t299, .bool t300, .bool t301, .bool t302, .bool t303, .bool t304, .bool t305, .bool t306, .bool t307, .bool t308, .bool false, .int .i64 t310, .bool t311, .int .i64 t312, .bool t313, .int .i64 t314, .bool t315, .int .i64 t316, .bool t317, .int .i64 t318] 51 (0, 0)) (by (with_reducible repeat (first | refine blk_drewN ?_ _ | refine blk_drew ?_ | refine blk_alloc ?_ _)); exact BK319.out) hb); have n2_ := Aside0.mk (below_step (by repeat (first | (with_reducible first | exact HB.out | apply below_alloc | apply pw_below_drewN | apply below_drew1 | refine below_set ?_ GE319.out) | exact HB.out)) hb); clear HO323; clear BK319; clear HB; have HO323 := n0_; have BK319 := n1_; have HB := n2_; clear n0_ n1_ n2_; (try clear hb); (try clear hb2); (try clear hk); (try clear hi)) | (go_at_call 29; (with_reducible refine (age_Usual.calls a1 true _ A34.out).mono ?_); rintro e w' ⟨rfl, ⟨nd, rfl⟩⟩) | ((with_reducible refine gate_callee (f := 25) rfl ?_); refine goesL_ (some 68) rfl rfl Tryd.func25 (by kernel_rfl) rfl #[.int .i64 t320, .int .i64 t327] rfl (by (try simp only [List.map_toArray, List.map_cons, List.map_nil]); first | done | rfl | (simp only [List.length_drop, List.length_take]; rfl)) ?_; (with_reducible refine (bits_Sub.calls t320 t327 t330 _ A36.out).mono ?_); rintro e w42 ⟨rfl, hb⟩; refine ⟨_, rfl, ?_⟩; have n0_ := Aside0.mk (Kd.R_below (by (with_reducible repeat (first | apply Kd.R_alloc | apply Kd.R_drewN | apply Kd.R_drew)); exact HO323.out) hb); have n1_ := Aside0.mk (blk_below (g := gb319) (o := .cells #[.bool t298, .bool t299, .bool t300, .bool t301, .bool t302, .bool t303, .bool t304, .bool t305, .bool t306, .bool t307, .bool t308, .bool false, .int .i64 t310, .bool t311, .int .i64 t312, .bool t313, .int .i64 t314, .bool t315, .int .i64 t316, .bool t317, .int .i64 t318] 51 (0, 0)) (by (with_reducible repeat (first | refine blk_drewN ?_ _ | refine blk_drew ?_ | refine blk_alloc ?_ _)); exact BK319.out) hb); have n2_ := Aside0.mk (below_step (by repeat (first | (with_reducible first | exact HB.out | apply below_alloc | apply pw_below_drewN | apply below_drew1 | refine below_set ?_ GE319.out) | exact HB.out)) hb); clear HO323; clear BK319; clear HB; have HO323 := n0_; have BK319 := n1_; have HB := n2_; clear n0_ n1_ n2_; (try clear hb); (try clear hb2); (try clear hk); (try clear hi)))
                go_ret
                exact ⟨by first | rfl | (simp [errW_none, errW_some] <;> rfl) | (simp only [← hji37]; first | rfl | (simp [errW_none, errW_some] <;> rfl)) | (simp [*, errW_none, errW_some] <;> rfl), by repeat (first | (with_reducible first | exact HB.out | apply below_alloc | apply pw_below_drewN | apply below_drew1 | refine below_set ?_ GE319.out) | exact HB.out)⟩
              · replace c35 := Bool.eq_false_iff.mpr c35
                subst c35
                have H1 : (some 0) = some r := by rw [if_neg (show ¬ (false = true) by decide)] at H; exact H
                clear H
                have H := H1
                clear H1
                obtain rfl := Option.some.inj H
                have hcz43_0 : wc.cell? ⟨gb319, 0, none⟩ = some (.bool t298) := (blk_cell BK319.out 0).trans rfl
                have hcz43_1 : wc.cell? ⟨gb319, 1, none⟩ = some (.bool t299) := (blk_cell BK319.out 1).trans rfl
                have hcz43_2 : wc.cell? ⟨gb319, 2, none⟩ = some (.bool t300) := (blk_cell BK319.out 2).trans rfl
                have hcz43_3 : wc.cell? ⟨gb319, 3, none⟩ = some (.bool t301) := (blk_cell BK319.out 3).trans rfl
                have hcz43_4 : wc.cell? ⟨gb319, 4, none⟩ = some (.bool t302) := (blk_cell BK319.out 4).trans rfl
                have hcz43_5 : wc.cell? ⟨gb319, 5, none⟩ = some (.bool t303) := (blk_cell BK319.out 5).trans rfl
                have hcz43_6 : wc.cell? ⟨gb319, 6, none⟩ = some (.bool t304) := (blk_cell BK319.out 6).trans rfl
                have hcz43_7 : wc.cell? ⟨gb319, 7, none⟩ = some (.bool t305) := (blk_cell BK319.out 7).trans rfl
                have hcz43_8 : wc.cell? ⟨gb319, 8, none⟩ = some (.bool t306) := (blk_cell BK319.out 8).trans rfl
                have hcz43_9 : wc.cell? ⟨gb319, 9, none⟩ = some (.bool t307) := (blk_cell BK319.out 9).trans rfl
                have hcz43_10 : wc.cell? ⟨gb319, 10, none⟩ = some (.bool t308) := (blk_cell BK319.out 10).trans rfl
                have hcz43_11 : wc.cell? ⟨gb319, 11, none⟩ = some (.bool false) := (blk_cell BK319.out 11).trans rfl
                have hcz43_12 : wc.cell? ⟨gb319, 12, none⟩ = some (.int .i64 t310) := (blk_cell BK319.out 12).trans rfl
                have hcz43_13 : wc.cell? ⟨gb319, 13, none⟩ = some (.bool t311) := (blk_cell BK319.out 13).trans rfl
                have hcz43_14 : wc.cell? ⟨gb319, 14, none⟩ = some (.int .i64 t312) := (blk_cell BK319.out 14).trans rfl
                have hcz43_15 : wc.cell? ⟨gb319, 15, none⟩ = some (.bool t313) := (blk_cell BK319.out 15).trans rfl
                have hcz43_16 : wc.cell? ⟨gb319, 16, none⟩ = some (.int .i64 t314) := (blk_cell BK319.out 16).trans rfl
                have hcz43_17 : wc.cell? ⟨gb319, 17, none⟩ = some (.bool t315) := (blk_cell BK319.out 17).trans rfl
                have hcz43_18 : wc.cell? ⟨gb319, 18, none⟩ = some (.int .i64 t316) := (blk_cell BK319.out 18).trans rfl
                have hcz43_19 : wc.cell? ⟨gb319, 19, none⟩ = some (.bool t317) := (blk_cell BK319.out 19).trans rfl
                have hcz43_20 : wc.cell? ⟨gb319, 20, none⟩ = some (.int .i64 t318) := (blk_cell BK319.out 20).trans rfl
                have hfz43_0 := blk_frozen BK319.out 0
                have hfz43_1 := blk_frozen BK319.out 1
                have hfz43_2 := blk_frozen BK319.out 2
                have hfz43_3 := blk_frozen BK319.out 3
                have hfz43_4 := blk_frozen BK319.out 4
                have hfz43_5 := blk_frozen BK319.out 5
                have hfz43_6 := blk_frozen BK319.out 6
                have hfz43_7 := blk_frozen BK319.out 7
                have hfz43_8 := blk_frozen BK319.out 8
                have hfz43_9 := blk_frozen BK319.out 9
                have hfz43_10 := blk_frozen BK319.out 10
                have hfz43_11 := blk_frozen BK319.out 11
                have hfz43_12 := blk_frozen BK319.out 12
                have hfz43_13 := blk_frozen BK319.out 13
                have hfz43_14 := blk_frozen BK319.out 14
                have hfz43_15 := blk_frozen BK319.out 15
                have hfz43_16 := blk_frozen BK319.out 16
                have hfz43_17 := blk_frozen BK319.out 17
                have hfz43_18 := blk_frozen BK319.out 18
                have hfz43_19 := blk_frozen BK319.out 19
                have hfz43_20 := blk_frozen BK319.out 20
                go_wp2_with (first | ((with_reducible refine gate_store (t := 51) rfl ?_); refine wpList_store_row rfl 51 _ _ rfl _ _ rfl rfl 51 _ (by first | exact blk_new _ _ | exact blk_alloc (blk_new _ _) _) (by kernel_rfl) rfl (by simp [Value.oneCell']) ?_; (first | rw [Own.alloc_setRow] | rw [Own.alloc2_setRow0] | rw [Own.alloc2_setRow1])) | ((with_reducible refine gate_callee (f := 16) rfl ?_); refine goesL_ (some 39) rfl rfl Tryd.func16 (by kernel_rfl) rfl #[.slice A2 l2.length c2, .string (⟨#[69, 120, 112, 105, 114, 101, 115]⟩ : ByteArray)] rfl (by (try simp only [List.map_toArray, List.map_cons, List.map_nil]); first | done | rfl | (simp only [List.length_drop, List.length_take]; rfl)) ?_; (with_reducible refine (head_All.calls kj6 _ _ l2 (⟨#[69, 120, 112, 105, 114, 101, 115]⟩ : ByteArray) t321 _ ?side1 ?side2 A18.out).mono ?_); (case side1 => repeat (first | exact (Kd.C_below HR2.out HB.out) | (with_reducible refine Kd.C_alloc ?_ _) | (with_reducible refine Kd.C_drewN ?_ _) | (with_reducible refine Kd.C_drew ?_))); (case side2 => exact HC2.out); rintro e w44 ⟨v322, rfl, ho0, hb⟩; refine ⟨_, rfl, ?_⟩; have n0_ := Aside0.mk (Kd.R_lower ho0 (below_size (by repeat (first | (with_reducible first | exact HB.out | apply below_alloc | apply pw_below_drewN | apply below_drew1 | refine below_set ?_ GE319.out) | exact HB.out)))); have n1_ := Aside0.mk (blk_below (g := gb319) (o := .cells #[.bool t298, .bool t299, .bool t300, .bool t301, .bool t302, .bool t303, .bool t304, .bool t305, .bool t306, .bool t307, .bool t308, .bool false, .int .i64 t310, .bool t311, .int .i64 t312, .bool t313, .int .i64 t314, .bool t315, .int .i64 t316, .bool t317, .int .i64 t318] 51 (0, 0)) (by (with_reducible repeat (first | refine blk_drewN ?_ _ | refine blk_drew ?_ | refine blk_alloc ?_ _)); exact BK319.out) hb); have n2_ := Aside0.mk (below_step (by repeat (first | (with_reducible first | exact HB.out | apply below_alloc | apply pw_below_drewN | apply below_drew1 | refine below_set ?_ GE319.out) | exact HB.out)) hb); clear BK319; clear HB; have HO323 := n0_; have BK319 := n1_; have HB := n2_; clear n0_ n1_ n2_; (try clear hb); (try clear hb2); (try clear hk); (try clear hi); (try clear ho0); obtain ⟨Ao45, co45, eo45⟩ := Kd.R_slice HO323.out; subst eo45) | ((with_reducible refine gate_callee (f := 28) rfl ?_); refine goesL_ (some 56) rfl rfl Tryd.func28 (by kernel_rfl) rfl #[.slice A2 l2.length c2, .string (⟨#[76, 97, 115, 116, 45, 77, 111, 100, 105, 102, 105, 101, 100]⟩ : ByteArray), .int .i64 a3] rfl (by (try simp only [List.map_toArray, List.map_cons, List.map_nil]); first | done | rfl | (simp only [List.length_drop, List.length_take]; rfl)) ?_; (with_reducible refine (age_one.calls kj6 _ _ l2 (⟨#[76, 97, 115, 116, 45, 77, 111, 100, 105, 102, 105, 101, 100]⟩ : ByteArray) a3 t327 true _ ?side1 ?side2 A32.out).mono ?_); (case side1 => repeat (first | exact (Kd.C_below HR2.out HB.out) | (with_reducible refine Kd.C_alloc ?_ _) | (with_reducible refine Kd.C_drewN ?_ _) | (with_reducible refine Kd.C_drew ?_))); (case side2 => exact HC2.out); rintro e w46 ⟨rfl, hb⟩; refine ⟨_, rfl, ?_⟩; have n0_ := Aside0.mk (Kd.R_below (by (with_reducible repeat (first | apply Kd.R_alloc | apply Kd.R_drewN | apply Kd.R_drew)); exact HO323.out) hb); have n1_ := Aside0.mk (blk_below (g := gb319) (o := .cells #[.bool t298, .bool t299, .bool t300, .bool t301, .bool t302, .bool t303, .bool t304, .bool t305, .bool t306, .bool t307, .bool t308, .bool false, .int .i64 t310, .bool t311, .int .i64 t312, .bool t313, .int .i64 t314, .bool t315, .int .i64 t316, .bool t317, .int .i64 t318] 51 (0, 0)) (by (with_reducible repeat (first | refine blk_drewN ?_ _ | refine blk_drew ?_ | refine blk_alloc ?_ _)); exact BK319.out) hb); have n2_ := Aside0.mk (below_step (by repeat (first | (with_reducible first | exact HB.out | apply below_alloc | apply pw_below_drewN | apply below_drew1 | refine below_set ?_ GE319.out) | exact HB.out)) hb); clear HO323; clear BK319; clear HB; have HO323 := n0_; have BK319 := n1_; have HB := n2_; clear n0_ n1_ n2_; (try clear hb); (try clear hb2); (try clear hk); (try clear hi)) | (go_at_call 29; (with_reducible refine (age_Usual.calls a1 false _ A34.out).mono ?_); rintro e w' ⟨rfl, ⟨nd, rfl⟩⟩))
                go_ret
                exact ⟨by first | rfl | (simp [errW_none, errW_some] <;> rfl) | (simp [*, errW_none, errW_some] <;> rfl), by repeat (first | (with_reducible first | exact HB.out | apply below_alloc | apply pw_below_drewN | apply below_drew1 | refine below_set ?_ GE319.out) | exact HB.out)⟩
            · replace c33 := Bool.eq_false_iff.mpr c33
              subst c33
              have H1 : (some 0) = some r := by rw [if_neg (show ¬ (false = true) by decide)] at H; exact H
              clear H
              have H := H1
              clear H1
              obtain rfl := Option.some.inj H
              have hcz47_0 : wc.cell? ⟨gb319, 0, none⟩ = some (.bool t298) := (blk_cell BK319.out 0).trans rfl
              have hcz47_1 : wc.cell? ⟨gb319, 1, none⟩ = some (.bool t299) := (blk_cell BK319.out 1).trans rfl
              have hcz47_2 : wc.cell? ⟨gb319, 2, none⟩ = some (.bool t300) := (blk_cell BK319.out 2).trans rfl
              have hcz47_3 : wc.cell? ⟨gb319, 3, none⟩ = some (.bool t301) := (blk_cell BK319.out 3).trans rfl
              have hcz47_4 : wc.cell? ⟨gb319, 4, none⟩ = some (.bool t302) := (blk_cell BK319.out 4).trans rfl
              have hcz47_5 : wc.cell? ⟨gb319, 5, none⟩ = some (.bool t303) := (blk_cell BK319.out 5).trans rfl
              have hcz47_6 : wc.cell? ⟨gb319, 6, none⟩ = some (.bool t304) := (blk_cell BK319.out 6).trans rfl
              have hcz47_7 : wc.cell? ⟨gb319, 7, none⟩ = some (.bool t305) := (blk_cell BK319.out 7).trans rfl
              have hcz47_8 : wc.cell? ⟨gb319, 8, none⟩ = some (.bool t306) := (blk_cell BK319.out 8).trans rfl
              have hcz47_9 : wc.cell? ⟨gb319, 9, none⟩ = some (.bool t307) := (blk_cell BK319.out 9).trans rfl
              have hcz47_10 : wc.cell? ⟨gb319, 10, none⟩ = some (.bool t308) := (blk_cell BK319.out 10).trans rfl
              have hcz47_11 : wc.cell? ⟨gb319, 11, none⟩ = some (.bool false) := (blk_cell BK319.out 11).trans rfl
              have hcz47_12 : wc.cell? ⟨gb319, 12, none⟩ = some (.int .i64 t310) := (blk_cell BK319.out 12).trans rfl
              have hcz47_13 : wc.cell? ⟨gb319, 13, none⟩ = some (.bool t311) := (blk_cell BK319.out 13).trans rfl
              have hcz47_14 : wc.cell? ⟨gb319, 14, none⟩ = some (.int .i64 t312) := (blk_cell BK319.out 14).trans rfl
              have hcz47_15 : wc.cell? ⟨gb319, 15, none⟩ = some (.bool t313) := (blk_cell BK319.out 15).trans rfl
              have hcz47_16 : wc.cell? ⟨gb319, 16, none⟩ = some (.int .i64 t314) := (blk_cell BK319.out 16).trans rfl
              have hcz47_17 : wc.cell? ⟨gb319, 17, none⟩ = some (.bool t315) := (blk_cell BK319.out 17).trans rfl
              have hcz47_18 : wc.cell? ⟨gb319, 18, none⟩ = some (.int .i64 t316) := (blk_cell BK319.out 18).trans rfl
              have hcz47_19 : wc.cell? ⟨gb319, 19, none⟩ = some (.bool t317) := (blk_cell BK319.out 19).trans rfl
              have hcz47_20 : wc.cell? ⟨gb319, 20, none⟩ = some (.int .i64 t318) := (blk_cell BK319.out 20).trans rfl
              have hfz47_0 := blk_frozen BK319.out 0
              have hfz47_1 := blk_frozen BK319.out 1
              have hfz47_2 := blk_frozen BK319.out 2
              have hfz47_3 := blk_frozen BK319.out 3
              have hfz47_4 := blk_frozen BK319.out 4
              have hfz47_5 := blk_frozen BK319.out 5
              have hfz47_6 := blk_frozen BK319.out 6
              have hfz47_7 := blk_frozen BK319.out 7
              have hfz47_8 := blk_frozen BK319.out 8
              have hfz47_9 := blk_frozen BK319.out 9
              have hfz47_10 := blk_frozen BK319.out 10
              have hfz47_11 := blk_frozen BK319.out 11
              have hfz47_12 := blk_frozen BK319.out 12
              have hfz47_13 := blk_frozen BK319.out 13
              have hfz47_14 := blk_frozen BK319.out 14
              have hfz47_15 := blk_frozen BK319.out 15
              have hfz47_16 := blk_frozen BK319.out 16
              have hfz47_17 := blk_frozen BK319.out 17
              have hfz47_18 := blk_frozen BK319.out 18
              have hfz47_19 := blk_frozen BK319.out 19
              have hfz47_20 := blk_frozen BK319.out 20
              go_wp2_with (first | ((with_reducible refine gate_store (t := 51) rfl ?_); refine wpList_store_row rfl 51 _ _ rfl _ _ rfl rfl 51 _ (by first | exact blk_new _ _ | exact blk_alloc (blk_new _ _) _) (by kernel_rfl) rfl (by simp [Value.oneCell']) ?_; (first | rw [Own.alloc_setRow] | rw [Own.alloc2_setRow0] | rw [Own.alloc2_setRow1])) | ((with_reducible refine gate_callee (f := 16) rfl ?_); refine goesL_ (some 39) rfl rfl Tryd.func16 (by kernel_rfl) rfl #[.slice A2 l2.length c2, .string (⟨#[69, 120, 112, 105, 114, 101, 115]⟩ : ByteArray)] rfl (by (try simp only [List.map_toArray, List.map_cons, List.map_nil]); first | done | rfl | (simp only [List.length_drop, List.length_take]; rfl)) ?_; (with_reducible refine (head_All.calls kj6 _ _ l2 (⟨#[69, 120, 112, 105, 114, 101, 115]⟩ : ByteArray) t321 _ ?side1 ?side2 A18.out).mono ?_); (case side1 => repeat (first | exact (Kd.C_below HR2.out HB.out) | (with_reducible refine Kd.C_alloc ?_ _) | (with_reducible refine Kd.C_drewN ?_ _) | (with_reducible refine Kd.C_drew ?_))); (case side2 => exact HC2.out); rintro e w48 ⟨v322, rfl, ho0, hb⟩; refine ⟨_, rfl, ?_⟩; have n0_ := Aside0.mk (Kd.R_lower ho0 (below_size (by repeat (first | (with_reducible first | exact HB.out | apply below_alloc | apply pw_below_drewN | apply below_drew1 | refine below_set ?_ GE319.out) | exact HB.out)))); have n1_ := Aside0.mk (blk_below (g := gb319) (o := .cells #[.bool t298, .bool t299, .bool t300, .bool t301, .bool t302, .bool t303, .bool t304, .bool t305, .bool t306, .bool t307, .bool t308, .bool false, .int .i64 t310, .bool t311, .int .i64 t312, .bool t313, .int .i64 t314, .bool t315, .int .i64 t316, .bool t317, .int .i64 t318] 51 (0, 0)) (by (with_reducible repeat (first | refine blk_drewN ?_ _ | refine blk_drew ?_ | refine blk_alloc ?_ _)); exact BK319.out) hb); have n2_ := Aside0.mk (below_step (by repeat (first | (with_reducible first | exact HB.out | apply below_alloc | apply pw_below_drewN | apply below_drew1 | refine below_set ?_ GE319.out) | exact HB.out)) hb); clear BK319; clear HB; have HO323 := n0_; have BK319 := n1_; have HB := n2_; clear n0_ n1_ n2_; (try clear hb); (try clear hb2); (try clear hk); (try clear hi); (try clear ho0); obtain ⟨Ao49, co49, eo49⟩ := Kd.R_slice HO323.out; subst eo49) | ((with_reducible refine gate_callee (f := 28) rfl ?_); refine goesL_ (some 56) rfl rfl Tryd.func28 (by kernel_rfl) rfl #[.slice A2 l2.length c2, .string (⟨#[76, 97, 115, 116, 45, 77, 111, 100, 105, 102, 105, 101, 100]⟩ : ByteArray), .int .i64 a3] rfl (by (try simp only [List.map_toArray, List.map_cons, List.map_nil]); first | done | rfl | (simp only [List.length_drop, List.length_take]; rfl)) ?_; (with_reducible refine (age_one.calls kj6 _ _ l2 (⟨#[76, 97, 115, 116, 45, 77, 111, 100, 105, 102, 105, 101, 100]⟩ : ByteArray) a3 t327 false _ ?side1 ?side2 A32.out).mono ?_); (case side1 => repeat (first | exact (Kd.C_below HR2.out HB.out) | (with_reducible refine Kd.C_alloc ?_ _) | (with_reducible refine Kd.C_drewN ?_ _) | (with_reducible refine Kd.C_drew ?_))); (case side2 => exact HC2.out); rintro e w50 ⟨rfl, hb⟩; refine ⟨_, rfl, ?_⟩; have n0_ := Aside0.mk (Kd.R_below (by (with_reducible repeat (first | apply Kd.R_alloc | apply Kd.R_drewN | apply Kd.R_drew)); exact HO323.out) hb); have n1_ := Aside0.mk (blk_below (g := gb319) (o := .cells #[.bool t298, .bool t299, .bool t300, .bool t301, .bool t302, .bool t303, .bool t304, .bool t305, .bool t306, .bool t307, .bool t308, .bool false, .int .i64 t310, .bool t311, .int .i64 t312, .bool t313, .int .i64 t314, .bool t315, .int .i64 t316, .bool t317, .int .i64 t318] 51 (0, 0)) (by (with_reducible repeat (first | refine blk_drewN ?_ _ | refine blk_drew ?_ | refine blk_alloc ?_ _)); exact BK319.out) hb); have n2_ := Aside0.mk (below_step (by repeat (first | (with_reducible first | exact HB.out | apply below_alloc | apply pw_below_drewN | apply below_drew1 | refine below_set ?_ GE319.out) | exact HB.out)) hb); clear HO323; clear BK319; clear HB; have HO323 := n0_; have BK319 := n1_; have HB := n2_; clear n0_ n1_ n2_; (try clear hb); (try clear hb2); (try clear hk); (try clear hi)))
              go_ret
              exact ⟨by first | rfl | (simp [errW_none, errW_some] <;> rfl) | (simp [*, errW_none, errW_some] <;> rfl), by repeat (first | (with_reducible first | exact HB.out | apply below_alloc | apply pw_below_drewN | apply below_drew1 | refine below_set ?_ GE319.out) | exact HB.out)⟩

end Go.Proofs.YtdikhinmlpihdaaDoor.Q
