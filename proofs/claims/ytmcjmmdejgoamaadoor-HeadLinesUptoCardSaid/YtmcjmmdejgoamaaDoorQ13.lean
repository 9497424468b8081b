-- Written by a program of this session's (wip/xprint.py), out of the seat's translation.
import Derived.Test.YtmcjmmdejgoamaaDoorQ0
import Derived.Test.YtmcjmmdejgoamaaDoorQ1
import Derived.Test.YtmcjmmdejgoamaaDoorQ2
import Derived.Test.YtmcjmmdejgoamaaDoorQ3
import Derived.Test.YtmcjmmdejgoamaaDoorQ4
import Derived.Test.YtmcjmmdejgoamaaDoorQ6
import Derived.Test.YtmcjmmdejgoamaaDoorQ11
import Derived.Test.YtmcjmmdejgoamaaDoorQ12
namespace Go.Proofs.YtmcjmmdejgoamaaDoor.Q
open Go.RowKit Go.Proofs.YtmcjmmdejgoamaaDoorW.PrintWords Go.Proofs.YtmcjmmdejgoamaaDoorW.PrintLast Go.Proofs.YtmcjmmdejgoamaaDoorW.PrintMore
attribute [local go_sem] max2_int min2_int max_two min_two max_three min_three max_four min_four   -- for this text's walks alone
set_option linter.unusedVariables false
set_option linter.unusedSimpArgs false

attribute [local go_sem high] eqA45
/-! ### api_Field: function 57 -/
def api_Field.l0 : Nat → List (S45) → List (S45) → Int → Int → Option (Bool)
  | 0, _, _, _, _ => none
  | k + 1, x0, x1, x12, x13 => if x13 < x12 then (if 0 ≤ x13 then (if x13 < (x0.length : Int) then (if x13 < (x1.length : Int) then (if (!((((rd_T45 x0 x13).f0).toList) == (((rd_T45 x1 x13).f0).toList)) || (!((((rd_T45 x0 x13).f1).toList) == (((rd_T45 x1 x13).f1).toList)))) = true then (some false) else (api_Field.l0 k x0 x1 x12 (wrap64 (x13 + 1)))) else (none)) else (none)) else (none)) else (some true)
def api_Field.f (k : Nat) (l0 : List (S45)) (l1 : List (S45)) : Option (Bool) := if (l0.length : Int) = (l1.length : Int) then (api_Field.l0 k l0 l1 (l0.length : Int) 0) else (some false)
theorem api_Field.mono_l : ∀ k, (∀ y0 y1 y2 y3, LeO (api_Field.l0 k y0 y1 y2 y3) (api_Field.l0 (k + 1) y0 y1 y2 y3))
  | 0 => fun _ _ _ _ r h => by simp [api_Field.l0] at h
  | k + 1 => by
    have ih0 := api_Field.mono_l k
    · intro y0 y1 y2 y3
      unfold api_Field.l0
      repeat' first
      | (with_reducible exact ih0 _ _ _ _)
      | (with_reducible exact LeO.refl _)
      | (with_reducible exact LeO.none _)
      | (with_reducible refine LeO.ite ?_ ?_)
      | (with_reducible refine LeO.bind ?_ (fun _ => ?_))
      | exact ih0 _ _ _ _
      | exact LeO.none _
      | refine LeO.ite ?_ ?_
      | refine LeO.bind ?_ (fun _ => ?_)
theorem api_Field.mono : ∀ a0 a1 k, LeO (api_Field.f k a0 a1) (api_Field.f (k + 1) a0 a1) := by
  intro a0 a1 k
  have ih0 := api_Field.mono_l k
  unfold api_Field.f
  repeat' first
      | (with_reducible exact ih0 _ _ _ _)
      | (with_reducible exact LeO.refl _)
      | (with_reducible exact LeO.none _)
      | (with_reducible refine LeO.ite ?_ ?_)
      | (with_reducible refine LeO.bind ?_ (fun _ => ?_))
      | exact ih0 _ _ _ _
      | exact LeO.none _
      | refine LeO.ite ?_ ?_
      | refine LeO.bind ?_ (fun _ => ?_)
set_option maxHeartbeats 8000000 in
set_option maxRecDepth 100000 in
theorem api_Field.calls (k : Nat) (A0 : Option Addr) (c0 : Nat) (l0 : List (S45)) (A1 : Option Addr) (c1 : Nat) (l1 : List (S45)) (r : Bool) (w : World) (hr0 : Kd.C k45 w A0 l0.length l0) (hc0 : l0.length ≤ c0) (hr1 : Kd.C k45 w A1 l1.length l1) (hc1 : l1.length ≤ c1) (h : api_Field.f k l0 l1 = some r) :
    Calls Tryd.prog 57 #[.slice A0 l0.length c0, .slice A1 l1.length c1] w fun e w' => e = .returned (.bool r) ∧ Drawn0 w w' := by
  have hu45 := Tryd.underlying45
  have HR0 := Aside0.mk hr0
  have HC0 := Aside0.mk hc0
  clear hr0 hc0
  have HR1 := Aside0.mk hr1
  have HC1 := Aside0.mk hc1
  clear hr1 hc1
  have H : (if (l0.length : Int) = (l1.length : Int) then (api_Field.l0 k l0 l1 (l0.length : Int) 0) else (some false)) = some r := h
  clear h
  by_cases c3 : (l0.length : Int) = (l1.length : Int)
  · rw [if_pos c3] at H
    have c3b0 : ((l0.length : Int) == (l1.length : Int)) = true := beq_iff_eq.mpr c3
    have c3b1 : ((l0.length : Int) != (l1.length : Int)) = false := bne_eq_false_iff_eq.mpr c3
    have c3b2 : (l0.length == l1.length) = true := by first | simpa using c3 | (simp at c3 ⊢; omega)
    clear c3
    have H' := Aside0.mk H
    clear H
    go_enter Tryd.func57, Tryd.ntmps57
    go_wp2
    repeat (go_quiet (fail); try go_wp2)
    go_loopg [13] k (fun kq v13 w' => ∃ (x13_1 : Int), v13 = .int .i64 x13_1 ∧ Aside0 (api_Field.l0 kq l0 l1 (l0.length : Int) x13_1 = some r) ∧ Aside0 (kq ≤ k) ∧ Drawn0 w w')
    case atStart => exact ⟨(0), (by first | rfl | (simp; done) | (simp [*]; done)), H', ⟨Nat.le_refl _⟩, by repeat (first | exact Drawn0.refl _ | apply Drawn0.step)⟩
    case round =>
      clear H'
      try clear c1
      try clear p2
      try clear c3
      try clear c3b0
      try clear c3b1
      try clear c3b2
      obtain ⟨x13_1, rfl, HA, HK1, ⟨m1, rfl⟩⟩ := hrel
      cases gk with
      | zero => exact absurd HA.out (by simp [api_Field.l0])
      | succ k1 =>
        have H := HA.out
        clear HA
        simp only [api_Field.l0] at H
        by_cases c4 : x13_1 < (l0.length : Int)
        · rw [if_pos c4] at H
          have c4b0 : decide (x13_1 < (l0.length : Int)) = true := decide_eq_true c4
          clear c4
          by_cases c5 : 0 ≤ x13_1
          · rw [if_pos c5] at H
            have c5b0 : decide (0 ≤ x13_1) = true := decide_eq_true c5
            clear c5
            by_cases c6 : x13_1 < (l0.length : Int)
            · rw [if_pos c6] at H
              have c6b0 : decide (x13_1 < (l0.length : Int)) = true := decide_eq_true c6
              clear c6
              by_cases c7 : x13_1 < (l1.length : Int)
              · rw [if_pos c7] at H
                have c7b0 : decide (x13_1 < (l1.length : Int)) = true := decide_eq_true c7
                clear c7
                by_cases c8 : (!((((rd_T45 l0 x13_1).f0).toList) == (((rd_T45 l1 x13_1).f0).toList)) || (!((((rd_T45 l0 x13_1).f1).toList) == (((rd_T45 l1 x13_1).f1).toList)))) = true
                · rw [if_pos c8] at H
                  have c8b0 : (!((((rd_T45 l0 x13_1).f0).toList) == (((rd_T45 l1 x13_1).f0).toList)) || (!((((rd_T45 l0 x13_1).f1).toList) == (((rd_T45 l1 x13_1).f1).toList)))) = true := c8
                  clear c8
                  obtain rfl := Option.some.inj H
                  have p370 : 0 ≤ (x13_1 : Int) := of_decide_eq_true (by first | (with_reducible assumption) | assumption)
                  have q370 : x13_1 < (l0.length : Int) := of_decide_eq_true (by first | (with_reducible assumption) | assumption)
                  obtain ⟨ad370, e370, hx370_0, hx370_1⟩ := at_T45 HR0.out x13_1 p370 q370
                  cases e370
                  replace p370 := eq_true p370
                  replace q370 := eq_true q370
                  have p371 : 0 ≤ (x13_1 : Int) := of_decide_eq_true (by first | (with_reducible assumption) | assumption)
                  have q371 : x13_1 < (l1.length : Int) := of_decide_eq_true (by first | (with_reducible assumption) | assumption)
                  obtain ⟨ad371, e371, hx371_0, hx371_1⟩ := at_T45 HR1.out x13_1 p371 q371
                  cases e371
                  replace p371 := eq_true p371
                  replace q371 := eq_true q371
                  go_wp2
                  repeat (go_quiet (fail); try go_wp2)
                  go_ret
                  exact ⟨by first | rfl | (simp; done) | (simp [*]; done), by repeat (first | exact Drawn0.refl _ | apply Drawn0.step)⟩
                · rw [if_neg c8] at H
                  have c8b0 : (!((((rd_T45 l0 x13_1).f0).toList) == (((rd_T45 l1 x13_1).f0).toList)) || (!((((rd_T45 l0 x13_1).f1).toList) == (((rd_T45 l1 x13_1).f1).toList)))) = false := by simpa using c8
                  clear c8
                  have H' := Aside0.mk H
                  clear H
                  have p370 : 0 ≤ (x13_1 : Int) := of_decide_eq_true (by first | (with_reducible assumption) | assumption)
                  have q370 : x13_1 < (l0.length : Int) := of_decide_eq_true (by first | (with_reducible assumption) | assumption)
                  obtain ⟨ad370, e370, hx370_0, hx370_1⟩ := at_T45 HR0.out x13_1 p370 q370
                  cases e370
                  replace p370 := eq_true p370
                  replace q370 := eq_true q370
                  have p371 : 0 ≤ (x13_1 : Int) := of_decide_eq_true (by first | (with_reducible assumption) | assumption)
                  have q371 : x13_1 < (l1.length : Int) := of_decide_eq_true (by first | (with_reducible assumption) | assumption)
                  obtain ⟨ad371, e371, hx371_0, hx371_1⟩ := at_T45 HR1.out x13_1 p371 q371
                  cases e371
                  replace p371 := eq_true p371
                  replace q371 := eq_true q371
                  go_wp2
                  repeat (go_quiet (fail); try go_wp2)
                  go_roundg k1
                  case measure => have := HK1.out; omega
                  case rel => exact ⟨(wrap64 (x13_1 + 1)), (by first | rfl | (simp; done) | (simp [*]; done)), H', ⟨by have := HK1.out; omega⟩, by repeat (first | exact Drawn0.refl _ | apply Drawn0.step)⟩
              · rw [if_neg c7] at H
                exact absurd H (by simp)
            · rw [if_neg c6] at H
              exact absurd H (by simp)
          · rw [if_neg c5] at H
            exact absurd H (by simp)
        · rw [if_neg c4] at H
          have c4b0 : decide (x13_1 < (l0.length : Int)) = false := decide_eq_false c4
          clear c4
          obtain rfl := Option.some.inj H
          go_wp2
          repeat (go_quiet (fail); try go_wp2)
          go_ret
          exact ⟨by first | rfl | (simp; done) | (simp [*]; done), by repeat (first | exact Drawn0.refl _ | apply Drawn0.step)⟩
  · rw [if_neg c3] at H
    have c3b0 : ((l0.length : Int) == (l1.length : Int)) = false := beq_eq_false_iff_ne.mpr c3
    have c3b1 : ((l0.length : Int) != (l1.length : Int)) = true := bne_iff_ne.mpr c3
    have c3b2 : (l0.length == l1.length) = false := by first | simpa using c3 | (simp at c3 ⊢; omega)
    obtain rfl := Option.some.inj H
    go_enter Tryd.func57, Tryd.ntmps57
    go_wp2
    repeat (go_quiet (fail); try go_wp2)
    go_ret
    exact ⟨by first | rfl | (simp; done) | (simp [*]; done), by repeat (first | exact Drawn0.refl _ | apply Drawn0.step)⟩

/-! ### head_Same: function 39 -/
def head_Same.f (k : Nat) (l0 : List (S45)) (l1 : List (S45)) : Option (Bool) := (api_Field.f k l0 l1).bind fun t372 => (some t372)
theorem head_Same.mono : ∀ a0 a1 k, LeO (head_Same.f k a0 a1) (head_Same.f (k + 1) a0 a1) := by
  intro a0 a1 k
  unfold head_Same.f
  repeat' first
      | (with_reducible exact api_Field.mono _ _ _)
      | (with_reducible exact LeO.refl _)
      | (with_reducible exact LeO.none _)
      | (with_reducible refine LeO.ite ?_ ?_)
      | (with_reducible refine LeO.bind ?_ (fun _ => ?_))
      | exact api_Field.mono _ _ _
      | exact LeO.none _
      | refine LeO.ite ?_ ?_
      | refine LeO.bind ?_ (fun _ => ?_)
set_option maxHeartbeats 8000000 in
set_option maxRecDepth 100000 in
theorem head_Same.calls (k : Nat) (A0 : Option Addr) (c0 : Nat) (l0 : List (S45)) (A1 : Option Addr) (c1 : Nat) (l1 : List (S45)) (r : Bool) (w : World) (hr0 : Kd.C k45 w A0 l0.length l0) (hc0 : l0.length ≤ c0) (hr1 : Kd.C k45 w A1 l1.length l1) (hc1 : l1.length ≤ c1) (h : head_Same.f k l0 l1 = some r) :
    Calls Tryd.prog 39 #[.slice A0 l0.length c0, .slice A1 l1.length c1] w fun e w' => e = .returned (.bool r) ∧ Drawn0 w w' := by
  have HR0 := Aside0.mk hr0
  have HC0 := Aside0.mk hc0
  clear hr0 hc0
  have HR1 := Aside0.mk hr1
  have HC1 := Aside0.mk hc1
  clear hr1 hc1
  have H : ((api_Field.f k l0 l1).bind fun t372 => (some t372)) = some r := h
  clear h
  replace H := Option.bind_eq_some_iff.mp H
  obtain ⟨t372, A30, H⟩ := H
  replace H : (some t372) = some r := H
  have A3 := Aside0.mk A30
  clear A30
  obtain rfl := Option.some.inj H
  go_enter Tryd.func39, Tryd.ntmps39
  go_wp2_with (first | ((with_reducible refine gate_callee (f := 57) rfl ?_); refine goesL_ (some 7) rfl rfl Tryd.func57 (by kernel_rfl) rfl #[.slice A0 l0.length c0, .slice A1 l1.length c1] rfl (by (try simp only [List.map_toArray, List.map_cons, List.map_nil]); first | done | rfl | (simp only [List.length_drop, List.length_take]; rfl)) ?_; (with_reducible refine (api_Field.calls k _ _ l0 _ _ l1 t372 _ ?side1 ?side2 ?side3 ?side4 A3.out).mono ?_); (case side1 => repeat (first | exact HR0.out | (with_reducible refine Kd.C_alloc ?_ _) | (with_reducible refine Kd.C_drewN ?_ _) | (with_reducible refine Kd.C_drew ?_))); (case side2 => exact HC0.out); (case side3 => repeat (first | exact HR1.out | (with_reducible refine Kd.C_alloc ?_ _) | (with_reducible refine Kd.C_drewN ?_ _) | (with_reducible refine Kd.C_drew ?_))); (case side4 => exact HC1.out); rintro e w' ⟨rfl, ⟨nd, rfl⟩⟩; refine ⟨_, rfl, ?_⟩))
  go_ret
  exact ⟨by first | rfl | (simp; done) | (simp [*]; done), by repeat (first | exact Drawn0.refl _ | apply Drawn0.step)⟩

/-! ### sprlaw13_HeadLines: function 8 -/
mutual
def sprlaw13_HeadLines.j0 : Nat → List (S45) → List (S45) → ByteArray → ByteArray → Bool → Option (Bool)
  | 0, _, _, _, _, _ => none
  | k + 1, x0, x1, x2, x3, x37 => if x37 = true then ((sprlaw13_first.f k).bind fun t376 => (some t376)) else ((sprref_CopyFields.f x0).bind fun t377 => ((head_One.f k t377 x2).bind fun bt380 => ((sprref12_One.f k x0 x2).bind fun bt382 => ((head_Set.f t377 x2 x3).bind fun t384 => ((sprref12_Set.f k x0 x2 x3).bind fun t387 => ((sprref_Fields.f k t384 t387).bind fun t390 => (sprlaw13_HeadLines.l0 k x0 x1 x2 t377 bt380.1 bt380.2 bt382.1 bt382.2 t384 t390 0)))))))
def sprlaw13_HeadLines.l0 : Nat → List (S45) → List (S45) → ByteArray → List (S45) → ByteArray → Bool → ByteArray → Bool → List (S45) → Bool → Int → Option (Bool)
  | 0, _, _, _, _, _, _, _, _, _, _, _ => none
  | k + 1, x0, x1, x2, x9, x10, x11, x12, x13, x14, x16, x17 => if x17 < (x14.length : Int) then (if 0 ≤ x17 then (sprlaw13_HeadLines.l0 k x0 x1 x2 x9 x10 x11 x12 x13 (x14.set (x17 : Int).toNat (⟨(rd_T45 x14 x17).f0, (⟨#[115, 112, 111, 105, 108, 116]⟩ : ByteArray)⟩ : S45)) x16 (wrap64 (x17 + 1))) else (none)) else ((sprlaw13_first.f k).bind fun t392 => (if t392 = true then (if x16 = true then ((head_All.f k x9 x2).bind fun t393 => ((sprref12_All.f k x0 x2).bind fun t396 => ((sprref_Texts.f k t393 t396).bind fun t399 => (if t399 = true then (if x10.toList = x12.toList then (if (x11 == x13) = true then ((head_Drop.f x9 x2).bind fun t400 => ((sprref12_Drop.f k x0 x2).bind fun t403 => ((sprref_Fields.f k t400 t403).bind fun t406 => (if t406 = true then ((head_Same.f k x9 x1).bind fun t407 => ((sprref_Fields.f k x0 x1).bind fun t408 => (if (t407 == t408) = true then ((sprref_Fields.f k x9 x0).bind fun t409 => (some t409)) else (some false)))) else (some false))))) else (some false)) else (some false)) else (some false))))) else (some false)) else (some false)))
end
def sprlaw13_HeadLines.f (k : Nat) (l0 : List (S45)) (l1 : List (S45)) (a2 : ByteArray) (a3 : ByteArray) : Option (Bool) := (sprlaw13_first.f k).bind fun t373 => (if t373 = true then ((sprlaw13_Few.f k l0).bind fun t374 => (if t374 = true then ((sprlaw13_Few.f k l1).bind fun t375 => (if t375 = true then (if (a2.size : Int) > 2000 then (sprlaw13_HeadLines.j0 k l0 l1 a2 a3 true) else (sprlaw13_HeadLines.j0 k l0 l1 a2 a3 (decide ((a3.size : Int) > 2000)))) else (sprlaw13_HeadLines.j0 k l0 l1 a2 a3 true))) else (sprlaw13_HeadLines.j0 k l0 l1 a2 a3 true))) else (some false))
theorem sprlaw13_HeadLines.mono_l : ∀ k, (∀ y0 y1 y2 y3 y4, LeO (sprlaw13_HeadLines.j0 k y0 y1 y2 y3 y4) (sprlaw13_HeadLines.j0 (k + 1) y0 y1 y2 y3 y4)) ∧ (∀ y0 y1 y2 y3 y4 y5 y6 y7 y8 y9 y10, LeO (sprlaw13_HeadLines.l0 k y0 y1 y2 y3 y4 y5 y6 y7 y8 y9 y10) (sprlaw13_HeadLines.l0 (k + 1) y0 y1 y2 y3 y4 y5 y6 y7 y8 y9 y10))
  | 0 => ⟨fun _ _ _ _ _ r h => by simp [sprlaw13_HeadLines.j0] at h, fun _ _ _ _ _ _ _ _ _ _ _ r h => by simp [sprlaw13_HeadLines.l0] at h⟩
  | k + 1 => by
    obtain ⟨ih0, ih1⟩ := sprlaw13_HeadLines.mono_l k
    refine ⟨?_, ?_⟩
    · intro y0 y1 y2 y3 y4
      unfold sprlaw13_HeadLines.j0
      repeat' first
      | (with_reducible exact ih0 _ _ _ _ _)
      | (with_reducible exact ih1 _ _ _ _ _ _ _ _ _ _ _)
      | (with_reducible exact head_All.mono _ _ _)
      | (with_reducible exact head_One.mono _ _ _)
      | (with_reducible exact head_Same.mono _ _ _)
      | (with_reducible exact sprlaw13_Few.mono _ _)
      | (with_reducible exact sprlaw13_first.mono _)
      | (with_reducible exact sprref12_All.mono _ _ _)
      | (with_reducible exact sprref12_Drop.mono _ _ _)
      | (with_reducible exact sprref12_One.mono _ _ _)
      | (with_reducible exact sprref12_Set.mono _ _ _ _)
      | (with_reducible exact sprref_Fields.mono _ _ _)
      | (with_reducible exact sprref_Texts.mono _ _ _)
      | (with_reducible exact LeO.refl _)
      | (with_reducible exact LeO.none _)
      | (with_reducible refine LeO.ite ?_ ?_)
      | (with_reducible refine LeO.bind ?_ (fun _ => ?_))
      | exact ih0 _ _ _ _ _
      | exact ih1 _ _ _ _ _ _ _ _ _ _ _
      | exact head_All.mono _ _ _
      | exact head_One.mono _ _ _
      | exact head_Same.mono _ _ _
      | exact sprlaw13_Few.mono _ _
      | exact sprlaw13_first.mono _
      | exact sprref12_All.mono _ _ _
      | exact sprref12_Drop.mono _ _ _
      | exact sprref12_One.mono _ _ _
      | exact sprref12_Set.mono _ _ _ _
      | exact sprref_Fields.mono _ _ _
      | exact sprref_Texts.mono _ _ _
      | exact LeO.none _
      | refine LeO.ite ?_ ?_
      | refine LeO.bind ?_ (fun _ => ?_)
    · intro y0 y1 y2 y3 y4 y5 y6 y7 y8 y9 y10
      unfold sprlaw13_HeadLines.l0
      repeat' first
      | (with_reducible exact ih0 _ _ _ _ _)
      | (with_reducible exact ih1 _ _ _ _ _ _ _ _ _ _ _)
      | (with_reducible exact head_All.mono _ _ _)
      | (with_reducible exact head_One.mono _ _ _)
      | (with_reducible exact head_Same.mono _ _ _)
      | (with_reducible exact sprlaw13_Few.mono _ _)
      | (with_reducible exact sprlaw13_first.mono _)
      | (with_reducible exact sprref12_All.mono _ _ _)
      | (with_reducible exact sprref12_Drop.mono _ _ _)
      | (with_reducible exact sprref12_One.mono _ _ _)
      | (with_reducible exact sprref12_Set.mono _ _ _ _)
      | (with_reducible exact sprref_Fields.mono _ _ _)
      | (with_reducible exact sprref_Texts.mono _ _ _)
      | (with_reducible exact LeO.refl _)
      | (with_reducible exact LeO.none _)
      | (with_reducible refine LeO.ite ?_ ?_)
      | (with_reducible refine LeO.bind ?_ (fun _ => ?_))
      | exact ih0 _ _ _ _ _
      | exact ih1 _ _ _ _ _ _ _ _ _ _ _
      | exact head_All.mono _ _ _
      | exact head_One.mono _ _ _
      | exact head_Same.mono _ _ _
      | exact sprlaw13_Few.mono _ _
      | exact sprlaw13_first.mono _
      | exact sprref12_All.mono _ _ _
      | exact sprref12_Drop.mono _ _ _
      | exact sprref12_One.mono _ _ _
      | exact sprref12_Set.mono _ _ _ _
      | exact sprref_Fields.mono _ _ _
      | exact sprref_Texts.mono _ _ _
      | exact LeO.none _
      | refine LeO.ite ?_ ?_
      | refine LeO.bind ?_ (fun _ => ?_)
theorem sprlaw13_HeadLines.mono : ∀ a0 a1 a2 a3 k, LeO (sprlaw13_HeadLines.f k a0 a1 a2 a3) (sprlaw13_HeadLines.f (k + 1) a0 a1 a2 a3) := by
  intro a0 a1 a2 a3 k
  obtain ⟨ih0, ih1⟩ := sprlaw13_HeadLines.mono_l k
  unfold sprlaw13_HeadLines.f
  repeat' first
      | (with_reducible exact ih0 _ _ _ _ _)
      | (with_reducible exact ih1 _ _ _ _ _ _ _ _ _ _ _)
      | (with_reducible exact head_All.mono _ _ _)
      | (with_reducible exact head_One.mono _ _ _)
      | (with_reducible exact head_Same.mono _ _ _)
      | (with_reducible exact sprlaw13_Few.mono _ _)
      | (with_reducible exact sprlaw13_first.mono _)
      | (with_reducible exact sprref12_All.mono _ _ _)
      | (with_reducible exact sprref12_Drop.mono _ _ _)
      | (with_reducible exact sprref12_One.mono _ _ _)
      | (with_reducible exact sprref12_Set.mono _ _ _ _)
      | (with_reducible exact sprref_Fields.mono _ _ _)
      | (with_reducible exact sprref_Texts.mono _ _ _)
      | (with_reducible exact LeO.refl _)
      | (with_reducible exact LeO.none _)
      | (with_reducible refine LeO.ite ?_ ?_)
      | (with_reducible refine LeO.bind ?_ (fun _ => ?_))
      | exact ih0 _ _ _ _ _
      | exact ih1 _ _ _ _ _ _ _ _ _ _ _
      | exact head_All.mono _ _ _
      | exact head_One.mono _ _ _
      | exact head_Same.mono _ _ _
      | exact sprlaw13_Few.mono _ _
      | exact sprlaw13_first.mono _
      | exact sprref12_All.mono _ _ _
      | exact sprref12_Drop.mono _ _ _
      | exact sprref12_One.mono _ _ _
      | exact sprref12_Set.mono _ _ _ _
      | exact sprref_Fields.mono _ _ _
      | exact sprref_Texts.mono _ _ _
      | exact LeO.none _
      | refine LeO.ite ?_ ?_
      | refine LeO.bind ?_ (fun _ => ?_)
set_option maxHeartbeats 8000000 in
set_option maxRecDepth 100000 in
theorem sprlaw13_HeadLines.calls (k : Nat) (A0 : Option Addr) (c0 : Nat) (l0 : List (S45)) (A1 : Option Addr) (c1 : Nat) (l1 : List (S45)) (a2 : ByteArray) (a3 : ByteArray) (r : Bool) (w : World) (hr0 : Kd.C k45 w A0 l0.length l0) (hc0 : l0.length ≤ c0) (hr1 : Kd.C k45 w A1 l1.length l1) (hc1 : l1.length ≤ c1) (h : sprlaw13_HeadLines.f k l0 l1 a2 a3 = some r) (hT : Aside0 (r = true)) :
    Calls Tryd.prog 8 #[.slice A0 l0.length c0, .slice A1 l1.length c1, .string a2, .string a3] w fun e w' => e = .returned (.bool r) ∧ Below w.heap.size w w' := by
  have HR0 := Aside0.mk hr0
  have HC0 := Aside0.mk hc0
  clear hr0 hc0
  have HR1 := Aside0.mk hr1
  have HC1 := Aside0.mk hc1
  clear hr1 hc1
  have HB := Aside0.mk (Below.refl w.heap.size w)
  have H : ((sprlaw13_first.f k).bind fun t373 => (if t373 = true then ((sprlaw13_Few.f k l0).bind fun t374 => (if t374 = true then ((sprlaw13_Few.f k l1).bind fun t375 => (if t375 = true then (if (a2.size : Int) > 2000 then (sprlaw13_HeadLines.j0 k l0 l1 a2 a3 true) else (sprlaw13_HeadLines.j0 k l0 l1 a2 a3 (decide ((a3.size : Int) > 2000)))) else (sprlaw13_HeadLines.j0 k l0 l1 a2 a3 true))) else (sprlaw13_HeadLines.j0 k l0 l1 a2 a3 true))) else (some false))) = some r := h
  clear h
  replace H := Option.bind_eq_some_iff.mp H
  obtain ⟨t373, A50, H⟩ := H
  replace H : (if t373 = true then ((sprlaw13_Few.f k l0).bind fun t374 => (if t374 = true then ((sprlaw13_Few.f k l1).bind fun t375 => (if t375 = true then (if (a2.size : Int) > 2000 then (sprlaw13_HeadLines.j0 k l0 l1 a2 a3 true) else (sprlaw13_HeadLines.j0 k l0 l1 a2 a3 (decide ((a3.size : Int) > 2000)))) else (sprlaw13_HeadLines.j0 k l0 l1 a2 a3 true))) else (sprlaw13_HeadLines.j0 k l0 l1 a2 a3 true))) else (some false)) = some r := H
  have A5 := Aside0.mk A50
  clear A50
  by_cases c6 : t373 = true
  · subst c6
    have H1 : ((sprlaw13_Few.f k l0).bind fun t374 => (if t374 = true then ((sprlaw13_Few.f k l1).bind fun t375 => (if t375 = true then (if (a2.size : Int) > 2000 then (sprlaw13_HeadLines.j0 k l0 l1 a2 a3 true) else (sprlaw13_HeadLines.j0 k l0 l1 a2 a3 (decide ((a3.size : Int) > 2000)))) else (sprlaw13_HeadLines.j0 k l0 l1 a2 a3 true))) else (sprlaw13_HeadLines.j0 k l0 l1 a2 a3 true))) = some r := by rw [if_pos rfl] at H; exact H
    clear H
    have H := H1
    clear H1
    have HC7 := Aside0.mk H
    clear H
    go_enter Tryd.func8, Tryd.ntmps8
    go_upto_region 3 with (first | ((with_reducible refine gate_callee (f := 9) rfl ?_); refine goesL_ (some 18) rfl rfl Tryd.func9 (by kernel_rfl) rfl #[] rfl (by (try simp only [List.map_toArray, List.map_cons, List.map_nil]); first | done | rfl | (simp only [List.length_drop, List.length_take]; rfl)) ?_; (with_reducible refine (sprlaw13_first.calls k  true _ A5.out).mono ?_); rintro e w8 ⟨rfl, hb⟩; refine ⟨_, rfl, ?_⟩; have n0_ := Aside0.mk (below_step (by repeat (first | (with_reducible first | exact HB.out | apply below_alloc | apply pw_below_drewN | apply below_drew1) | exact HB.out)) hb); clear HB; have HB := n0_; clear n0_; (try clear hb); (try clear hb2); (try clear hk); (try clear hi)))
    (try simp only [Act.put, List.setIfInBounds_toArray, List.set_cons_zero, List.set_cons_succ])
    go_cut [37] (fun v37 wc => ∃ (kq : Nat) (x37_6 : Bool), v37 = .bool x37_6 ∧ Aside0 (sprlaw13_HeadLines.j0 kq l0 l1 a2 a3 x37_6 = some r) ∧ Aside0 (kq ≤ k) ∧ Aside0 (Below w.heap.size w wc))
    case first =>
      have H := HC7.out
      clear HC7
      replace H := Option.bind_eq_some_iff.mp H
      obtain ⟨t374, A90, H⟩ := H
      replace H : (if t374 = true then ((sprlaw13_Few.f k l1).bind fun t375 => (if t375 = true then (if (a2.size : Int) > 2000 then (sprlaw13_HeadLines.j0 k l0 l1 a2 a3 true) else (sprlaw13_HeadLines.j0 k l0 l1 a2 a3 (decide ((a3.size : Int) > 2000)))) else (sprlaw13_HeadLines.j0 k l0 l1 a2 a3 true))) else (sprlaw13_HeadLines.j0 k l0 l1 a2 a3 true)) = some r := H
      have A9 := Aside0.mk A90
      clear A90
      by_cases c10 : t374 = true
      · subst c10
        have H1 : ((sprlaw13_Few.f k l1).bind fun t375 => (if t375 = true then (if (a2.size : Int) > 2000 then (sprlaw13_HeadLines.j0 k l0 l1 a2 a3 true) else (sprlaw13_HeadLines.j0 k l0 l1 a2 a3 (decide ((a3.size : Int) > 2000)))) else (sprlaw13_HeadLines.j0 k l0 l1 a2 a3 true))) = some r := by rw [if_pos rfl] at H; exact H
        clear H
        have H := H1
        clear H1
        replace H := Option.bind_eq_some_iff.mp H
        obtain ⟨t375, A110, H⟩ := H
        replace H : (if t375 = true then (if (a2.size : Int) > 2000 then (sprlaw13_HeadLines.j0 k l0 l1 a2 a3 true) else (sprlaw13_HeadLines.j0 k l0 l1 a2 a3 (decide ((a3.size : Int) > 2000)))) else (sprlaw13_HeadLines.j0 k l0 l1 a2 a3 true)) = some r := H
        have A11 := Aside0.mk A110
        clear A110
        by_cases c12 : t375 = true
        · subst c12
          have H1 : (if (a2.size : Int) > 2000 then (sprlaw13_HeadLines.j0 k l0 l1 a2 a3 true) else (sprlaw13_HeadLines.j0 k l0 l1 a2 a3 (decide ((a3.size : Int) > 2000)))) = some r := by rw [if_pos rfl] at H; exact H
          clear H
          have H := H1
          clear H1
          by_cases c13 : (a2.size : Int) > 2000
          · rw [if_pos c13] at H
            have c13b0 : decide (2000 < (a2.size : Int)) = true := decide_eq_true c13
            have c13b1 : decide (2000 < a2.size) = true := decide_eq_true (by omega)
            clear c13
            (first | rw [c13b0] | (simp only [i64_w, i32_w]; rw [c13b0]) | skip)
            have H' := Aside0.mk H
            clear H
            go_wp2_with (first | ((with_reducible refine gate_callee (f := 11) rfl ?_); refine goesL_ (some 21) rfl rfl Tryd.func11 (by kernel_rfl) rfl #[.slice A0 l0.length c0] rfl (by (try simp only [List.map_toArray, List.map_cons, List.map_nil]); first | done | rfl | (simp only [List.length_drop, List.length_take]; rfl)) ?_; (with_reducible refine (sprlaw13_Few.calls k _ _ l0 true _ ?side1 ?side2 A9.out).mono ?_); (case side1 => repeat (first | exact (Kd.C_below HR0.out HB.out) | (with_reducible refine Kd.C_alloc ?_ _) | (with_reducible refine Kd.C_drewN ?_ _) | (with_reducible refine Kd.C_drew ?_))); (case side2 => exact HC0.out); rintro e w14 ⟨rfl, hb⟩; refine ⟨_, rfl, ?_⟩; have n0_ := Aside0.mk (below_step (by repeat (first | (with_reducible first | exact HB.out | apply below_alloc | apply pw_below_drewN | apply below_drew1) | exact HB.out)) hb); clear HB; have HB := n0_; clear n0_; (try clear hb); (try clear hb2); (try clear hk); (try clear hi)) | (go_at_call 11; (with_reducible refine (sprlaw13_Few.calls k _ _ l1 true _ ?side1 ?side2 A11.out).mono ?_); (case side1 => repeat (first | exact (Kd.C_below HR1.out HB.out) | (with_reducible refine Kd.C_alloc ?_ _) | (with_reducible refine Kd.C_drewN ?_ _) | (with_reducible refine Kd.C_drew ?_))); (case side2 => exact HC1.out); rintro e w15 ⟨rfl, hb⟩; have n0_ := Aside0.mk (below_step (by repeat (first | (with_reducible first | exact HB.out | apply below_alloc | apply pw_below_drewN | apply below_drew1) | exact HB.out)) hb); clear HB; have HB := n0_; clear n0_; (try clear hb); (try clear hb2); (try clear hk); (try clear hi)))
            go_meet
            case rel => exact ⟨_, (true), (by first | rfl | (simp; done) | (simp [*]; done)), H', ⟨by first | omega | exact Nat.le_refl _⟩, ⟨by repeat (first | (with_reducible first | exact HB.out | apply below_alloc | apply pw_below_drewN | apply below_drew1) | exact HB.out)⟩⟩
          · rw [if_neg c13] at H
            have c13b0 : decide (2000 < (a2.size : Int)) = false := decide_eq_false c13
            have c13b1 : decide (2000 < a2.size) = false := decide_eq_false (by omega)
            clear c13
            (first | rw [c13b0] | (simp only [i64_w, i32_w]; rw [c13b0]) | skip)
            have H' := Aside0.mk H
            clear H
            go_wp2_with (first | ((with_reducible refine gate_callee (f := 11) rfl ?_); refine goesL_ (some 21) rfl rfl Tryd.func11 (by kernel_rfl) rfl #[.slice A0 l0.length c0] rfl (by (try simp only [List.map_toArray, List.map_cons, List.map_nil]); first | done | rfl | (simp only [List.length_drop, List.length_take]; rfl)) ?_; (with_reducible refine (sprlaw13_Few.calls k _ _ l0 true _ ?side1 ?side2 A9.out).mono ?_); (case side1 => repeat (first | exact (Kd.C_below HR0.out HB.out) | (with_reducible refine Kd.C_alloc ?_ _) | (with_reducible refine Kd.C_drewN ?_ _) | (with_reducible refine Kd.C_drew ?_))); (case side2 => exact HC0.out); rintro e w16 ⟨rfl, hb⟩; refine ⟨_, rfl, ?_⟩; have n0_ := Aside0.mk (below_step (by repeat (first | (with_reducible first | exact HB.out | apply below_alloc | apply pw_below_drewN | apply below_drew1) | exact HB.out)) hb); clear HB; have HB := n0_; clear n0_; (try clear hb); (try clear hb2); (try clear hk); (try clear hi)) | (go_at_call 11; (with_reducible refine (sprlaw13_Few.calls k _ _ l1 true _ ?side1 ?side2 A11.out).mono ?_); (case side1 => repeat (first | exact (Kd.C_below HR1.out HB.out) | (with_reducible refine Kd.C_alloc ?_ _) | (with_reducible refine Kd.C_drewN ?_ _) | (with_reducible refine Kd.C_drew ?_))); (case side2 => exact HC1.out); rintro e w17 ⟨rfl, hb⟩; have n0_ := Aside0.mk (below_step (by repeat (first | (with_reducible first | exact HB.out | apply below_alloc | apply pw_below_drewN | apply below_drew1) | exact HB.out)) hb); clear HB; have HB := n0_; clear n0_; (try clear hb); (try clear hb2); (try clear hk); (try clear hi)))
            go_meet
            case rel => exact ⟨_, (decide ((a3.size : Int) > 2000)), (by first | rfl | (simp; done) | (simp [*]; done)), H', ⟨by first | omega | exact Nat.le_refl _⟩, ⟨by repeat (first | (with_reducible first | exact HB.out | apply below_alloc | apply pw_below_drewN | apply below_drew1) | exact HB.out)⟩⟩
        · replace c12 := Bool.eq_false_iff.mpr c12
          subst c12
          have H1 : (sprlaw13_HeadLines.j0 k l0 l1 a2 a3 true) = some r := by rw [if_neg (show ¬ (false = true) by decide)] at H; exact H
          clear H
          have H := H1
          clear H1
          have H' := Aside0.mk H
          clear H
          go_wp2_with (first | ((with_reducible refine gate_callee (f := 11) rfl ?_); refine goesL_ (some 21) rfl rfl Tryd.func11 (by kernel_rfl) rfl #[.slice A0 l0.length c0] rfl (by (try simp only [List.map_toArray, List.map_cons, List.map_nil]); first | done | rfl | (simp only [List.length_drop, List.length_take]; rfl)) ?_; (with_reducible refine (sprlaw13_Few.calls k _ _ l0 true _ ?side1 ?side2 A9.out).mono ?_); (case side1 => repeat (first | exact (Kd.C_below HR0.out HB.out) | (with_reducible refine Kd.C_alloc ?_ _) | (with_reducible refine Kd.C_drewN ?_ _) | (with_reducible refine Kd.C_drew ?_))); (case side2 => exact HC0.out); rintro e w18 ⟨rfl, hb⟩; refine ⟨_, rfl, ?_⟩; have n0_ := Aside0.mk (below_step (by repeat (first | (with_reducible first | exact HB.out | apply below_alloc | apply pw_below_drewN | apply below_drew1) | exact HB.out)) hb); clear HB; have HB := n0_; clear n0_; (try clear hb); (try clear hb2); (try clear hk); (try clear hi)) | (go_at_call 11; (with_reducible refine (sprlaw13_Few.calls k _ _ l1 false _ ?side1 ?side2 A11.out).mono ?_); (case side1 => repeat (first | exact (Kd.C_below HR1.out HB.out) | (with_reducible refine Kd.C_alloc ?_ _) | (with_reducible refine Kd.C_drewN ?_ _) | (with_reducible refine Kd.C_drew ?_))); (case side2 => exact HC1.out); rintro e w19 ⟨rfl, hb⟩; have n0_ := Aside0.mk (below_step (by repeat (first | (with_reducible first | exact HB.out | apply below_alloc | apply pw_below_drewN | apply below_drew1) | exact HB.out)) hb); clear HB; have HB := n0_; clear n0_; (try clear hb); (try clear hb2); (try clear hk); (try clear hi)))
          go_meet
          case rel => exact ⟨_, (true), (by first | rfl | (simp; done) | (simp [*]; done)), H', ⟨by first | omega | exact Nat.le_refl _⟩, ⟨by repeat (first | (with_reducible first | exact HB.out | apply below_alloc | apply pw_below_drewN | apply below_drew1) | exact HB.out)⟩⟩
      · replace c10 := Bool.eq_false_iff.mpr c10
        subst c10
        have H1 : (sprlaw13_HeadLines.j0 k l0 l1 a2 a3 true) = some r := by rw [if_neg (show ¬ (false = true) by decide)] at H; exact H
        clear H
        have H := H1
        clear H1
        have H' := Aside0.mk H
        clear H
        go_wp2_with (first | ((with_reducible refine gate_callee (f := 11) rfl ?_); refine goesL_ (some 21) rfl rfl Tryd.func11 (by kernel_rfl) rfl #[.slice A0 l0.length c0] rfl (by (try simp only [List.map_toArray, List.map_cons, List.map_nil]); first | done | rfl | (simp only [List.length_drop, List.length_take]; rfl)) ?_; (with_reducible refine (sprlaw13_Few.calls k _ _ l0 false _ ?side1 ?side2 A9.out).mono ?_); (case side1 => repeat (first | exact (Kd.C_below HR0.out HB.out) | (with_reducible refine Kd.C_alloc ?_ _) | (with_reducible refine Kd.C_drewN ?_ _) | (with_reducible refine Kd.C_drew ?_))); (case side2 => exact HC0.out); rintro e w20 ⟨rfl, hb⟩; refine ⟨_, rfl, ?_⟩; have n0_ := Aside0.mk (below_step (by repeat (first | (with_reducible first | exact HB.out | apply below_alloc | apply pw_below_drewN | apply below_drew1) | exact HB.out)) hb); clear HB; have HB := n0_; clear n0_; (try clear hb); (try clear hb2); (try clear hk); (try clear hi)))
        go_meet
        case rel => exact ⟨_, (true), (by first | rfl | (simp; done) | (simp [*]; done)), H', ⟨by first | omega | exact Nat.le_refl _⟩, ⟨by repeat (first | (with_reducible first | exact HB.out | apply below_alloc | apply pw_below_drewN | apply below_drew1) | exact HB.out)⟩⟩
    case rest =>
      clear HC7
      try clear c1
      try clear p2
      try clear c6
      try clear c8
      try clear c9
      try clear c10
      try clear c11
      try clear c12
      try clear c13
      try clear c13b0
      try clear c13b1
      obtain ⟨kq, x37_6, rfl, HA, HJ6, HB⟩ := hcut
      cases kq with
      | zero => exact absurd HA.out (by simp [sprlaw13_HeadLines.j0])
      | succ kj6 =>
        have H := HA.out
        clear HA
        simp only [sprlaw13_HeadLines.j0] at H
        by_cases c21 : x37_6 = true
        · subst c21
          have H1 : ((sprlaw13_first.f kj6).bind fun t376 => (some t376)) = some r := by rw [if_pos rfl] at H; exact H
          clear H
          have H := H1
          clear H1
          replace H := Option.bind_eq_some_iff.mp H
          obtain ⟨t376, A220, H⟩ := H
          replace H : (some t376) = some r := H
          have A22 := Aside0.mk A220
          clear A220
          obtain rfl := Option.some.inj H
          go_wp2_with (first | ((with_reducible refine gate_callee (f := 9) rfl ?_); refine goesL_ (some 38) rfl rfl Tryd.func9 (by kernel_rfl) rfl #[] rfl (by (try simp only [List.map_toArray, List.map_cons, List.map_nil]); first | done | rfl | (simp only [List.length_drop, List.length_take]; rfl)) ?_; (with_reducible refine (sprlaw13_first.calls kj6  t376 _ A22.out).mono ?_); rintro e w23 ⟨rfl, hb⟩; refine ⟨_, rfl, ?_⟩; have n0_ := Aside0.mk (below_step (by repeat (first | (with_reducible first | exact HB.out | apply below_alloc | apply pw_below_drewN | apply below_drew1) | exact HB.out)) hb); clear HB; have HB := n0_; clear n0_; (try clear hb); (try clear hb2); (try clear hk); (try clear hi)))
          go_ret
          exact ⟨by first | rfl | (simp [errW_none, errW_some] <;> rfl) | (simp [*, errW_none, errW_some] <;> rfl), by repeat (first | (with_reducible first | exact HB.out | apply below_alloc | apply pw_below_drewN | apply below_drew1) | exact HB.out)⟩
        · replace c21 := Bool.eq_false_iff.mpr c21
          subst c21
          have H1 : ((sprref_CopyFields.f l0).bind fun t377 => ((head_One.f kj6 t377 a2).bind fun bt380 => ((sprref12_One.f kj6 l0 a2).bind fun bt382 => ((head_Set.f t377 a2 a3).bind fun t384 => ((sprref12_Set.f kj6 l0 a2 a3).bind fun t387 => ((sprref_Fields.f kj6 t384 t387).bind fun t390 => (sprlaw13_HeadLines.l0 kj6 l0 l1 a2 t377 bt380.1 bt380.2 bt382.1 bt382.2 t384 t390 0))))))) = some r := by rw [if_neg (show ¬ (false = true) by decide)] at H; exact H
          clear H
          have H := H1
          clear H1
          replace H := Option.bind_eq_some_iff.mp H
          obtain ⟨t377, A240, H⟩ := H
          replace H : ((head_One.f kj6 t377 a2).bind fun bt380 => ((sprref12_One.f kj6 l0 a2).bind fun bt382 => ((head_Set.f t377 a2 a3).bind fun t384 => ((sprref12_Set.f kj6 l0 a2 a3).bind fun t387 => ((sprref_Fields.f kj6 t384 t387).bind fun t390 => (sprlaw13_HeadLines.l0 kj6 l0 l1 a2 t377 bt380.1 bt380.2 bt382.1 bt382.2 t384 t390 0)))))) = some r := H
          have A24 := Aside0.mk A240
          clear A240
          replace H := Option.bind_eq_some_iff.mp H
          obtain ⟨⟨t380, t381⟩, A250, H⟩ := H
          replace H : ((sprref12_One.f kj6 l0 a2).bind fun bt382 => ((head_Set.f t377 a2 a3).bind fun t384 => ((sprref12_Set.f kj6 l0 a2 a3).bind fun t387 => ((sprref_Fields.f kj6 t384 t387).bind fun t390 => (sprlaw13_HeadLines.l0 kj6 l0 l1 a2 t377 t380 t381 bt382.1 bt382.2 t384 t390 0))))) = some r := H
          have A25 := Aside0.mk A250
          clear A250
          replace H := Option.bind_eq_some_iff.mp H
          obtain ⟨⟨t382, t383⟩, A260, H⟩ := H
          replace H : ((head_Set.f t377 a2 a3).bind fun t384 => ((sprref12_Set.f kj6 l0 a2 a3).bind fun t387 => ((sprref_Fields.f kj6 t384 t387).bind fun t390 => (sprlaw13_HeadLines.l0 kj6 l0 l1 a2 t377 t380 t381 t382 t383 t384 t390 0)))) = some r := H
          have A26 := Aside0.mk A260
          clear A260
          replace H := Option.bind_eq_some_iff.mp H
          obtain ⟨t384, A270, H⟩ := H
          replace H : ((sprref12_Set.f kj6 l0 a2 a3).bind fun t387 => ((sprref_Fields.f kj6 t384 t387).bind fun t390 => (sprlaw13_HeadLines.l0 kj6 l0 l1 a2 t377 t380 t381 t382 t383 t384 t390 0))) = some r := H
          have A27 := Aside0.mk A270
          clear A270
          replace H := Option.bind_eq_some_iff.mp H
          obtain ⟨t387, A280, H⟩ := H
          replace H : ((sprref_Fields.f kj6 t384 t387).bind fun t390 => (sprlaw13_HeadLines.l0 kj6 l0 l1 a2 t377 t380 t381 t382 t383 t384 t390 0)) = some r := H
          have A28 := Aside0.mk A280
          clear A280
          replace H := Option.bind_eq_some_iff.mp H
          obtain ⟨t390, A290, H⟩ := H
          replace H : (sprlaw13_HeadLines.l0 kj6 l0 l1 a2 t377 t380 t381 t382 t383 t384 t390 0) = some r := H
          have A29 := Aside0.mk A290
          clear A290
          have H' := Aside0.mk H
          clear H
          go_wp2_with (first | ((with_reducible refine gate_callee (f := 34) rfl ?_); refine goesL_ (some 40) rfl rfl Tryd.func34 (by kernel_rfl) rfl #[.slice A0 l0.length c0] rfl (by (try simp only [List.map_toArray, List.map_cons, List.map_nil]); first | done | rfl | (simp only [List.length_drop, List.length_take]; rfl)) ?_; (with_reducible refine (sprref_CopyFields.calls _ _ l0 t377 _ ?side1 ?side2 A24.out).mono ?_); (case side1 => repeat (first | exact (Kd.C_below HR0.out HB.out) | (with_reducible refine Kd.C_alloc ?_ _) | (with_reducible refine Kd.C_drewN ?_ _) | (with_reducible refine Kd.C_drew ?_))); (case side2 => exact HC0.out); rintro e w30 ⟨v378, rfl, ho0, hb⟩; refine ⟨_, rfl, ?_⟩; have n0_ := Aside0.mk (Kd.R_lower ho0 (below_size (by repeat (first | (with_reducible first | exact HB.out | apply below_alloc | apply pw_below_drewN | apply below_drew1) | exact HB.out)))); have n1_ := Aside0.mk (below_step (by repeat (first | (with_reducible first | exact HB.out | apply below_alloc | apply pw_below_drewN | apply below_drew1) | exact HB.out)) hb); clear HB; have HO379 := n0_; have HB := n1_; clear n0_ n1_; (try clear hb); (try clear hb2); (try clear hk); (try clear hi); (try clear ho0); obtain ⟨Ao31, co31, eo31⟩ := Kd.R_slice HO379.out; subst eo31) | ((with_reducible refine gate_callee (f := 33) rfl ?_); refine goesL_ (some 44) rfl rfl Tryd.func33 (by kernel_rfl) rfl #[.slice Ao31 t377.length co31, .string a2] rfl (by (try simp only [List.map_toArray, List.map_cons, List.map_nil]); first | done | rfl | (simp only [List.length_drop, List.length_take]; rfl)) ?_; (with_reducible refine (head_One.calls kj6 _ _ t377 a2 t380 t381 _ ?side1 ?side2 A25.out).mono ?_); (case side1 => repeat (first | exact (Kd.R_reads' HO379.out).2.2 | (with_reducible refine Kd.C_alloc ?_ _) | (with_reducible refine Kd.C_drewN ?_ _) | (with_reducible refine Kd.C_drew ?_))); (case side2 => exact (Kd.R_reads' HO379.out).2.1); rintro e w32 ⟨rfl, hb⟩; refine ⟨_, rfl, ?_⟩; have n0_ := Aside0.mk (Kd.R_below (by (with_reducible repeat (first | apply Kd.R_alloc | apply Kd.R_drewN | apply Kd.R_drew)); exact HO379.out) hb); have n1_ := Aside0.mk (below_step (by repeat (first | (with_reducible first | exact HB.out | apply below_alloc | apply pw_below_drewN | apply below_drew1) | exact HB.out)) hb); clear HO379; clear HB; have HO379 := n0_; have HB := n1_; clear n0_ n1_; (try clear hb); (try clear hb2); (try clear hk); (try clear hi)) | ((with_reducible refine gate_callee (f := 35) rfl ?_); refine goesL_ (some 50) rfl rfl Tryd.func35 (by kernel_rfl) rfl #[.slice A0 l0.length c0, .string a2] rfl (by (try simp only [List.map_toArray, List.map_cons, List.map_nil]); first | done | rfl | (simp only [List.length_drop, List.length_take]; rfl)) ?_; (with_reducible refine (sprref12_One.calls kj6 _ _ l0 a2 t382 t383 _ ?side1 ?side2 A26.out).mono ?_); (case side1 => repeat (first | exact (Kd.C_below HR0.out HB.out) | (with_reducible refine Kd.C_alloc ?_ _) | (with_reducible refine Kd.C_drewN ?_ _) | (with_reducible refine Kd.C_drew ?_))); (case side2 => exact HC0.out); rintro e w33 ⟨rfl, hb⟩; refine ⟨_, rfl, ?_⟩; have n0_ := Aside0.mk (Kd.R_below (by (with_reducible repeat (first | apply Kd.R_alloc | apply Kd.R_drewN | apply Kd.R_drew)); exact HO379.out) hb); have n1_ := Aside0.mk (below_step (by repeat (first | (with_reducible first | exact HB.out | apply below_alloc | apply pw_below_drewN | apply below_drew1) | exact HB.out)) hb); clear HO379; clear HB; have HO379 := n0_; have HB := n1_; clear n0_ n1_; (try clear hb); (try clear hb2); (try clear hk); (try clear hi)) | ((with_reducible refine gate_callee (f := 31) rfl ?_); refine goesL_ (some 56) rfl rfl Tryd.func31 (by kernel_rfl) rfl #[.slice Ao31 t377.length co31, .string a2, .string a3] rfl (by (try simp only [List.map_toArray, List.map_cons, List.map_nil]); first | done | rfl | (simp only [List.length_drop, List.length_take]; rfl)) ?_; (with_reducible refine (head_Set.calls _ _ t377 a2 a3 t384 _ ?side1 ?side2 A27.out).mono ?_); (case side1 => repeat (first | exact (Kd.R_reads' HO379.out).2.2 | (with_reducible refine Kd.C_alloc ?_ _) | (with_reducible refine Kd.C_drewN ?_ _) | (with_reducible refine Kd.C_drew ?_))); (case side2 => exact (Kd.R_reads' HO379.out).2.1); rintro e w34 ⟨v385, rfl, ho0, hb⟩; refine ⟨_, rfl, ?_⟩; have n0_ := Aside0.mk (Kd.R_elder' (by (with_reducible repeat (first | apply Kd.R_alloc | apply Kd.R_drewN | apply Kd.R_drew)); exact HO379.out) (Kd.R_base ho0) hb); have n1_ := Aside0.mk (Kd.R_lower (Kd.R_new' ho0 (Kd.R_lt (by (with_reducible repeat (first | apply Kd.R_alloc | apply Kd.R_drewN | apply Kd.R_drew)); exact HO379.out))) (below_size (by repeat (first | (with_reducible first | exact HB.out | apply below_alloc | apply pw_below_drewN | apply below_drew1) | exact HB.out)))); have n2_ := Aside0.mk (below_step (by repeat (first | (with_reducible first | exact HB.out | apply below_alloc | apply pw_below_drewN | apply below_drew1) | exact HB.out)) hb); clear HO379; clear HB; have HO379 := n0_; have HO386 := n1_; have HB := n2_; clear n0_ n1_ n2_; (try clear hb); (try clear hb2); (try clear hk); (try clear hi); (try clear ho0)) | ((with_reducible refine gate_callee (f := 36) rfl ?_); refine goesL_ (some 60) rfl rfl Tryd.func36 (by kernel_rfl) rfl #[.slice A0 l0.length c0, .string a2, .string a3] rfl (by (try simp only [List.map_toArray, List.map_cons, List.map_nil]); first | done | rfl | (simp only [List.length_drop, List.length_take]; rfl)) ?_; (with_reducible refine (sprref12_Set.calls kj6 _ _ l0 a2 a3 t387 _ ?side1 ?side2 A28.out).mono ?_); (case side1 => repeat (first | exact (Kd.C_below HR0.out HB.out) | (with_reducible refine Kd.C_alloc ?_ _) | (with_reducible refine Kd.C_drewN ?_ _) | (with_reducible refine Kd.C_drew ?_))); (case side2 => exact HC0.out); rintro e w35 ⟨v388, rfl, ho0, hb⟩; refine ⟨_, rfl, ?_⟩; have n0_ := Aside0.mk (Kd.R_elder' (by (with_reducible repeat (first | apply Kd.R_alloc | apply Kd.R_drewN | apply Kd.R_drew)); exact HO379.out) (Kd.R_base ho0) hb); have n1_ := Aside0.mk (Kd.R_elder' (by (with_reducible repeat (first | apply Kd.R_alloc | apply Kd.R_drewN | apply Kd.R_drew)); exact HO386.out) (Kd.R_base ho0) hb); have n2_ := Aside0.mk (Kd.R_lower (Kd.R_new' (Kd.R_new' ho0 (Kd.R_lt (by (with_reducible repeat (first | apply Kd.R_alloc | apply Kd.R_drewN | apply Kd.R_drew)); exact HO379.out))) (Kd.R_lt (by (with_reducible repeat (first | apply Kd.R_alloc | apply Kd.R_drewN | apply Kd.R_drew)); exact HO386.out))) (below_size (by repeat (first | (with_reducible first | exact HB.out | apply below_alloc | apply pw_below_drewN | apply below_drew1) | exact HB.out)))); have n3_ := Aside0.mk (below_step (by repeat (first | (with_reducible first | exact HB.out | apply below_alloc | apply pw_below_drewN | apply below_drew1) | exact HB.out)) hb); clear HO379; clear HO386; clear HB; have HO379 := n0_; have HO386 := n1_; have HO389 := n2_; have HB := n3_; clear n0_ n1_ n2_ n3_; (try clear hb); (try clear hb2); (try clear hk); (try clear hi); (try clear ho0); obtain ⟨Ao36, co36, eo36⟩ := Kd.R_slice HO386.out; subst eo36; obtain ⟨Ao37, co37, eo37⟩ := Kd.R_slice HO389.out; subst eo37) | ((with_reducible refine gate_callee (f := 16) rfl ?_); refine goesL_ (some 63) rfl rfl Tryd.func16 (by kernel_rfl) rfl #[.slice Ao36 t384.length co36, .slice Ao37 t387.length co37] rfl (by (try simp only [List.map_toArray, List.map_cons, List.map_nil]); first | done | rfl | (simp only [List.length_drop, List.length_take]; rfl)) ?_; (with_reducible refine (sprref_Fields.calls kj6 _ _ t384 _ _ t387 t390 _ ?side1 ?side2 ?side3 ?side4 A29.out).mono ?_); (case side1 => repeat (first | exact (Kd.R_reads' HO386.out).2.2 | (with_reducible refine Kd.C_alloc ?_ _) | (with_reducible refine Kd.C_drewN ?_ _) | (with_reducible refine Kd.C_drew ?_))); (case side2 => exact (Kd.R_reads' HO386.out).2.1); (case side3 => repeat (first | exact (Kd.R_reads' HO389.out).2.2 | (with_reducible refine Kd.C_alloc ?_ _) | (with_reducible refine Kd.C_drewN ?_ _) | (with_reducible refine Kd.C_drew ?_))); (case side4 => exact (Kd.R_reads' HO389.out).2.1); rintro e w' ⟨rfl, ⟨nd, rfl⟩⟩; refine ⟨_, rfl, ?_⟩))
          go_loopg [17] kj6 (fun kq v17 w' => ∃ (x14_2 : List (S45)) (x17_2 : Int), v17 = .int .i64 x17_2 ∧ Aside0 (sprlaw13_HeadLines.l0 kq l0 l1 a2 t377 t380 t381 t382 t383 x14_2 t390 x17_2 = some r) ∧ Aside0 (kq ≤ kj6) ∧ Aside0 (Kd.R k45 45 w' w.heap.size (fun k_ => some k_ ≠ ((.slice Ao36 t384.length co36) : Value).ownBlock) (.slice Ao31 t377.length co31) t377) ∧ Aside0 (Kd.R k45 45 w' w.heap.size (fun k_ => some k_ ≠ ((.slice Ao31 t377.length co31) : Value).ownBlock) (.slice Ao36 t384.length co36) x14_2) ∧ Aside0 (Below w.heap.size w w'))
          case atStart => exact ⟨(t384), (0), (by first | rfl | (simp; done) | (simp [*]; done)), H', ⟨Nat.le_refl _⟩, ⟨by (with_reducible repeat (first | apply Kd.R_alloc | apply Kd.R_drewN | apply Kd.R_drew)); exact Kd.R_mono HO379.out (fun _ hk => hk.1.2)⟩, ⟨by (with_reducible repeat (first | apply Kd.R_alloc | apply Kd.R_drewN | apply Kd.R_drew)); exact Kd.R_mono HO386.out (fun _ hk => hk.1.2)⟩, ⟨by repeat (first | (with_reducible first | exact HB.out | apply below_alloc | apply pw_below_drewN | apply below_drew1) | exact HB.out)⟩⟩
          case round =>
            clear H'
            try clear c1
            try clear c2
            try clear p2
            try clear c3
            try clear c6
            try clear c8
            try clear c9
            try clear c10
            try clear c11
            try clear c12
            try clear c13
            try clear c13b0
            try clear c13b1
            try clear c16
            try clear c21
            try clear c31
            try clear c33
            try clear c34
            try clear c35
            try clear c36
            try clear p2
            obtain ⟨x14_2, x17_2, rfl, HA, HK2, HO_9, HO_14, HB⟩ := hrel
            have hl14_2 := (Kd.R_reads' HO_14.out).1
            rw [hl14_2] at HO_14
            (try simp only [hl14_2])
            (try simp only [hl14_2] at HO_9)
            cases gk with
            | zero => exact absurd HA.out (by simp [sprlaw13_HeadLines.l0])
            | succ k2 =>
              have H := HA.out
              clear HA
              simp only [sprlaw13_HeadLines.l0] at H
              by_cases c38 : x17_2 < (x14_2.length : Int)
              · rw [if_pos c38] at H
                have c38b0 : decide (x17_2 < (x14_2.length : Int)) = true := decide_eq_true c38
                clear c38
                by_cases c39 : 0 ≤ x17_2
                · rw [if_pos c39] at H
                  have c39b0 : decide (0 ≤ x17_2) = true := decide_eq_true c39
                  clear c39
                  obtain ⟨y391, hy391⟩ : ∃ y_ : List (S45), y_ = (x14_2.set (x17_2 : Int).toNat (⟨(rd_T45 x14_2 x17_2).f0, (⟨#[115, 112, 111, 105, 108, 116]⟩ : ByteArray)⟩ : S45)) := ⟨_, rfl⟩
                  replace H : (sprlaw13_HeadLines.l0 k2 l0 l1 a2 t377 t380 t381 t382 t383 y391 t390 (wrap64 (x17_2 + 1))) = some r := by first | (rw [hy391]; with_reducible exact H) | (have H2_ := (Option.bind_some _ _).symm.trans H; rw [hy391]; with_reducible exact H2_) | (have H2_ := (Option.bind_some _ _).symm.trans H; with_reducible exact H2_) | with_reducible exact H | (rw [hy391]; exact H) | exact H
                  have Ny391 := Aside0.mk hy391
                  clear hy391
                  have H' := Aside0.mk H
                  clear H
                  have p40 : 0 ≤ (x17_2 : Int) := of_decide_eq_true (by first | (with_reducible assumption) | assumption)
                  have q40 : (x17_2 : Int) < ((x14_2.length : Int) : Int) := of_decide_eq_true (by first | (with_reducible assumption) | assumption)
                  obtain ⟨go40, co40, eo40, gb40, gl40, cl40, HG40⟩ := Kd.R_form HO_14.out (by omega)
                  (first | cases eo40 | (injection eo40 with ea_ en_ ec_; (first | subst ea_ | (injection ea_ with ea_; subst ea_)); subst ec_; clear en_))
                  have GB40 := Aside0.mk gb40
                  have GG40 := Aside0.mk HG40
                  clear gb40 gl40 HG40
                  obtain ⟨ce40, hcl40, hM40, hcc40, hfr40⟩ := Kd.R_elem HO_14.out z45 (x17_2 : Int) p40 q40
                  obtain rfl := k45_openM hM40
                  have hx40_0 : wr.cell? ⟨go40, (x17_2 : Int).toNat * 2, none⟩ = some (.string ((rd_T45 x14_2 x17_2).f0)) := hcc40 0 _ rfl
                  have hx40_1 : wr.cell? ⟨go40, (x17_2 : Int).toNat * 2 + 1, none⟩ = some (.string ((rd_T45 x14_2 x17_2).f1)) := hcc40 1 _ rfl
                  have hf40_0 : wr.frozen? ⟨go40, (x17_2 : Int).toNat * 2, none⟩ = false := hfr40 0
                  have hf40_1 : wr.frozen? ⟨go40, (x17_2 : Int).toNat * 2 + 1, none⟩ = false := hfr40 1
                  clear hcl40 hcc40 hfr40 hM40
                  replace p40 := eq_true p40
                  replace q40 := eq_true q40
                  have HX41 := Aside0.mk (show Kd.R k45 45 wr w.heap.size (fun k_ => some k_ ≠ (.slice Ao31 t377.length co31 : Value).ownBlock) (.slice (some ⟨go40, 0, none⟩) x14_2.length co36) x14_2 from (by (with_reducible repeat (first | apply Kd.R_alloc | apply Kd.R_drewN | apply Kd.R_drew)); exact HO_14.out))
                  obtain ⟨ce41, hcl41, hM41, hcc41, hfr41⟩ := Kd.R_elem HX41.out z45 (x17_2 : Int) (of_decide_eq_true (by first | (with_reducible assumption) | assumption)) (by have h_ : (x17_2 : Int) < ((x14_2.length : Int) : Int) := of_decide_eq_true (by first | (with_reducible assumption) | assumption); first | exact h_ | (have e_ := (Kd.R_reads' HO_14.out).1; omega) | simpa using h_)
                  obtain rfl := k45_openM hM41
                  have HP41 := Kd.R_seg HX41.out (x17_2 : Int) (of_decide_eq_true (by first | (with_reducible assumption) | assumption)) (by have h_ : (x17_2 : Int) < ((x14_2.length : Int) : Int) := of_decide_eq_true (by first | (with_reducible assumption) | assumption); first | exact h_ | (have e_ := (Kd.R_reads' HO_14.out).1; omega) | simpa using h_) (seg := [.string (⟨#[115, 112, 111, 105, 108, 116]⟩ : ByteArray)]) (j := 1) hcl41 hcc41 (show 2 ≤ 2 from by decide) (x' := (⟨(rd_T45 x14_2 x17_2).f0, (⟨#[115, 112, 111, 105, 108, 116]⟩ : ByteArray)⟩ : S45)) (k45_mkM _ _ _ (⟨(rd_T45 x14_2 x17_2).f0, (⟨#[115, 112, 111, 105, 108, 116]⟩ : ByteArray)⟩ : S45) ) (fun _ hk => hk)
                  have hx41_1 := hcc41 1 _ rfl
                  (try simp only [show (k45).sz = 2 from rfl, Nat.mul_one, Nat.add_zero] at hx41_1)
                  have hf41_1 := hfr41 1
                  (try simp only [show (k45).sz = 2 from rfl, Nat.mul_one, Nat.add_zero] at hf41_1)
                  clear hcl41 hcc41 hfr41 hM41
                  go_wp2_with (first | ((with_reducible refine gate_store (t := 9) (p := 73) rfl ?_); refine store_event (t := 9) (p := 73) (v := ?vo_w42) (w1 := (wr.setCell ⟨go40, (x17_2 : Int).toNat * 2 + 1, none⟩ (.string (⟨#[115, 112, 111, 105, 108, 116]⟩ : ByteArray)))) ?hg ?ho ?hn ?hr ?_; (case ho => rfl); (case hg => rfl); (case hn => rfl); (case hr => first | (go_simp; done) | (go_simp; rfl)); intro w42 hw; have hg : wr.grownBy w42 (some go40) := (by rw [hw]; exact HP41.2); have hp_ : Kd.R k45 45 w42 w.heap.size (fun k_ => some k_ ≠ (.slice Ao31 t377.length co31 : Value).ownBlock) (.slice (some ⟨go40, 0, none⟩) x14_2.length co36) y391 := (by rw [hw, Ny391.out]; exact HP41.1); clear HP41; have n0_ := Aside0.mk (Kd.R_after (v := (.slice (some ⟨go40, 0, none⟩) x14_2.length co36)) (v1 := (.slice (some ⟨go40, 0, none⟩) x14_2.length co36)) (ok := (fun _ => True)) (by (with_reducible repeat (first | apply Kd.R_alloc | apply Kd.R_drewN | apply Kd.R_drew)); exact Kd.R_mono HO_9.out (fun _ hk => ⟨trivial, hk⟩)) hg (.inl rfl)); have n1_ := Aside0.mk (hp_); have n2_ := Aside0.mk ((by rw [hw]; exact below_set (HB.out) GB40.out : Below w.heap.size w w42)); clear HO_9; clear HO_14; clear HB; have HO_9 := n0_; have HO_14 := n1_; have HB := n2_; clear n0_ n1_ n2_; clear hg hw hp_))
                  (try simp only [← hl14_2])
                  go_roundg k2
                  case measure => have := HJ6.out; have := HK2.out; omega
                  case rel => exact ⟨(y391), (wrap64 (x17_2 + 1)), (by first | rfl | (simp; done) | (simp [*]; done)), H', ⟨by have := HJ6.out; have := HK2.out; omega⟩, ⟨by (try simp only [hl14_2]); (with_reducible repeat (first | apply Kd.R_alloc | apply Kd.R_drewN | apply Kd.R_drew)); exact Kd.R_mono HO_9.out (fun _ hk => hk.2)⟩, ⟨by (try simp only [hl14_2]); (with_reducible repeat (first | apply Kd.R_alloc | apply Kd.R_drewN | apply Kd.R_drew)); exact HO_14.out⟩, ⟨by repeat (first | (with_reducible first | exact HB.out | apply below_alloc | apply pw_below_drewN | apply below_drew1) | exact HB.out)⟩⟩
                · rw [if_neg c39] at H
                  exact absurd H (by simp)
              · rw [if_neg c38] at H
                have c38b0 : decide (x17_2 < (x14_2.length : Int)) = false := decide_eq_false c38
                clear c38
                replace H := Option.bind_eq_some_iff.mp H
                obtain ⟨t392, A430, H⟩ := H
                replace H : (if t392 = true then (if t390 = true then ((head_All.f k2 t377 a2).bind fun t393 => ((sprref12_All.f k2 l0 a2).bind fun t396 => ((sprref_Texts.f k2 t393 t396).bind fun t399 => (if t399 = true then (if t380.toList = t382.toList then (if (t381 == t383) = true then ((head_Drop.f t377 a2).bind fun t400 => ((sprref12_Drop.f k2 l0 a2).bind fun t403 => ((sprref_Fields.f k2 t400 t403).bind fun t406 => (if t406 = true then ((head_Same.f k2 t377 l1).bind fun t407 => ((sprref_Fields.f k2 l0 l1).bind fun t408 => (if (t407 == t408) = true then ((sprref_Fields.f k2 t377 l0).bind fun t409 => (some t409)) else (some false)))) else (some false))))) else (some false)) else (some false)) else (some false))))) else (some false)) else (some false)) = some r := H
                have A43 := Aside0.mk A430
                clear A430
                by_cases c44 : t392 = true
                · subst c44
                  have H1 : (if t390 = true then ((head_All.f k2 t377 a2).bind fun t393 => ((sprref12_All.f k2 l0 a2).bind fun t396 => ((sprref_Texts.f k2 t393 t396).bind fun t399 => (if t399 = true then (if t380.toList = t382.toList then (if (t381 == t383) = true then ((head_Drop.f t377 a2).bind fun t400 => ((sprref12_Drop.f k2 l0 a2).bind fun t403 => ((sprref_Fields.f k2 t400 t403).bind fun t406 => (if t406 = true then ((head_Same.f k2 t377 l1).bind fun t407 => ((sprref_Fields.f k2 l0 l1).bind fun t408 => (if (t407 == t408) = true then ((sprref_Fields.f k2 t377 l0).bind fun t409 => (some t409)) else (some false)))) else (some false))))) else (some false)) else (some false)) else (some false))))) else (some false)) = some r := by rw [if_pos rfl] at H; exact H
                  clear H
                  have H := H1
                  clear H1
                  by_cases c45 : t390 = true
                  · subst c45
                    have H1 : ((head_All.f k2 t377 a2).bind fun t393 => ((sprref12_All.f k2 l0 a2).bind fun t396 => ((sprref_Texts.f k2 t393 t396).bind fun t399 => (if t399 = true then (if t380.toList = t382.toList then (if (t381 == t383) = true then ((head_Drop.f t377 a2).bind fun t400 => ((sprref12_Drop.f k2 l0 a2).bind fun t403 => ((sprref_Fields.f k2 t400 t403).bind fun t406 => (if t406 = true then ((head_Same.f k2 t377 l1).bind fun t407 => ((sprref_Fields.f k2 l0 l1).bind fun t408 => (if (t407 == t408) = true then ((sprref_Fields.f k2 t377 l0).bind fun t409 => (some t409)) else (some false)))) else (some false))))) else (some false)) else (some false)) else (some false))))) = some r := by rw [if_pos rfl] at H; exact H
                    clear H
                    have H := H1
                    clear H1
                    replace H := Option.bind_eq_some_iff.mp H
                    obtain ⟨t393, A460, H⟩ := H
                    replace H : ((sprref12_All.f k2 l0 a2).bind fun t396 => ((sprref_Texts.f k2 t393 t396).bind fun t399 => (if t399 = true then (if t380.toList = t382.toList then (if (t381 == t383) = true then ((head_Drop.f t377 a2).bind fun t400 => ((sprref12_Drop.f k2 l0 a2).bind fun t403 => ((sprref_Fields.f k2 t400 t403).bind fun t406 => (if t406 = true then ((head_Same.f k2 t377 l1).bind fun t407 => ((sprref_Fields.f k2 l0 l1).bind fun t408 => (if (t407 == t408) = true then ((sprref_Fields.f k2 t377 l0).bind fun t409 => (some t409)) else (some false)))) else (some false))))) else (some false)) else (some false)) else (some false)))) = some r := H
                    have A46 := Aside0.mk A460
                    clear A460
                    replace H := Option.bind_eq_some_iff.mp H
                    obtain ⟨t396, A470, H⟩ := H
                    replace H : ((sprref_Texts.f k2 t393 t396).bind fun t399 => (if t399 = true then (if t380.toList = t382.toList then (if (t381 == t383) = true then ((head_Drop.f t377 a2).bind fun t400 => ((sprref12_Drop.f k2 l0 a2).bind fun t403 => ((sprref_Fields.f k2 t400 t403).bind fun t406 => (if t406 = true then ((head_Same.f k2 t377 l1).bind fun t407 => ((sprref_Fields.f k2 l0 l1).bind fun t408 => (if (t407 == t408) = true then ((sprref_Fields.f k2 t377 l0).bind fun t409 => (some t409)) else (some false)))) else (some false))))) else (some false)) else (some false)) else (some false))) = some r := H
                    have A47 := Aside0.mk A470
                    clear A470
                    replace H := Option.bind_eq_some_iff.mp H
                    obtain ⟨t399, A480, H⟩ := H
                    replace H : (if t399 = true then (if t380.toList = t382.toList then (if (t381 == t383) = true then ((head_Drop.f t377 a2).bind fun t400 => ((sprref12_Drop.f k2 l0 a2).bind fun t403 => ((sprref_Fields.f k2 t400 t403).bind fun t406 => (if t406 = true then ((head_Same.f k2 t377 l1).bind fun t407 => ((sprref_Fields.f k2 l0 l1).bind fun t408 => (if (t407 == t408) = true then ((sprref_Fields.f k2 t377 l0).bind fun t409 => (some t409)) else (some false)))) else (some false))))) else (some false)) else (some false)) else (some false)) = some r := H
                    have A48 := Aside0.mk A480
                    clear A480
                    by_cases c49 : t399 = true
                    · subst c49
                      have H1 : (if t380.toList = t382.toList then (if (t381 == t383) = true then ((head_Drop.f t377 a2).bind fun t400 => ((sprref12_Drop.f k2 l0 a2).bind fun t403 => ((sprref_Fields.f k2 t400 t403).bind fun t406 => (if t406 = true then ((head_Same.f k2 t377 l1).bind fun t407 => ((sprref_Fields.f k2 l0 l1).bind fun t408 => (if (t407 == t408) = true then ((sprref_Fields.f k2 t377 l0).bind fun t409 => (some t409)) else (some false)))) else (some false))))) else (some false)) else (some false)) = some r := by rw [if_pos rfl] at H; exact H
                      clear H
                      have H := H1
                      clear H1
                      by_cases c50 : t380.toList = t382.toList
                      · rw [if_pos c50] at H
                        have c50b0 : (t380.toList == t382.toList) = true := beq_iff_eq.mpr c50
                        have c50b1 : (t380.toList != t382.toList) = false := bne_eq_false_iff_eq.mpr c50
                        clear c50
                        by_cases c51 : (t381 == t383) = true
                        · rw [if_pos c51] at H
                          have c51b0 : (t381 == t383) = true := c51
                          (try (have c51b1 : decide (t381 = t383) = true := by simpa using c51))
                          (try (have c51b2 : (t381 == t383) = true := by simpa using c51))
                          clear c51
                          replace H := Option.bind_eq_some_iff.mp H
                          obtain ⟨t400, A520, H⟩ := H
                          replace H : ((sprref12_Drop.f k2 l0 a2).bind fun t403 => ((sprref_Fields.f k2 t400 t403).bind fun t406 => (if t406 = true then ((head_Same.f k2 t377 l1).bind fun t407 => ((sprref_Fields.f k2 l0 l1).bind fun t408 => (if (t407 == t408) = true then ((sprref_Fields.f k2 t377 l0).bind fun t409 => (some t409)) else (some false)))) else (some false)))) = some r := H
                          have A52 := Aside0.mk A520
                          clear A520
                          replace H := Option.bind_eq_some_iff.mp H
                          obtain ⟨t403, A530, H⟩ := H
                          replace H : ((sprref_Fields.f k2 t400 t403).bind fun t406 => (if t406 = true then ((head_Same.f k2 t377 l1).bind fun t407 => ((sprref_Fields.f k2 l0 l1).bind fun t408 => (if (t407 == t408) = true then ((sprref_Fields.f k2 t377 l0).bind fun t409 => (some t409)) else (some false)))) else (some false))) = some r := H
                          have A53 := Aside0.mk A530
                          clear A530
                          replace H := Option.bind_eq_some_iff.mp H
                          obtain ⟨t406, A540, H⟩ := H
                          replace H : (if t406 = true then ((head_Same.f k2 t377 l1).bind fun t407 => ((sprref_Fields.f k2 l0 l1).bind fun t408 => (if (t407 == t408) = true then ((sprref_Fields.f k2 t377 l0).bind fun t409 => (some t409)) else (some false)))) else (some false)) = some r := H
                          have A54 := Aside0.mk A540
                          clear A540
                          by_cases c55 : t406 = true
                          · subst c55
                            have H1 : ((head_Same.f k2 t377 l1).bind fun t407 => ((sprref_Fields.f k2 l0 l1).bind fun t408 => (if (t407 == t408) = true then ((sprref_Fields.f k2 t377 l0).bind fun t409 => (some t409)) else (some false)))) = some r := by rw [if_pos rfl] at H; exact H
                            clear H
                            have H := H1
                            clear H1
                            replace H := Option.bind_eq_some_iff.mp H
                            obtain ⟨t407, A560, H⟩ := H
                            replace H : ((sprref_Fields.f k2 l0 l1).bind fun t408 => (if (t407 == t408) = true then ((sprref_Fields.f k2 t377 l0).bind fun t409 => (some t409)) else (some false))) = some r := H
                            have A56 := Aside0.mk A560
                            clear A560
                            replace H := Option.bind_eq_some_iff.mp H
                            obtain ⟨t408, A570, H⟩ := H
                            replace H : (if (t407 == t408) = true then ((sprref_Fields.f k2 t377 l0).bind fun t409 => (some t409)) else (some false)) = some r := H
                            have A57 := Aside0.mk A570
                            clear A570
                            by_cases c58 : (t407 == t408) = true
                            · rw [if_pos c58] at H
                              have c58b0 : (t407 == t408) = true := c58
                              (try (have c58b1 : decide (t407 = t408) = true := by simpa using c58))
                              (try (have c58b2 : (t407 == t408) = true := by simpa using c58))
                              clear c58
                              replace H := Option.bind_eq_some_iff.mp H
                              obtain ⟨t409, A590, H⟩ := H
                              replace H : (some t409) = some r := H
                              have A59 := Aside0.mk A590
                              clear A590
                              obtain rfl := Option.some.inj H
                              go_wp2_with (first | ((with_reducible refine gate_callee (f := 9) rfl ?_); refine goesL_ (some 74) rfl rfl Tryd.func9 (by kernel_rfl) rfl #[] rfl (by (try simp only [List.map_toArray, List.map_cons, List.map_nil]); first | done | rfl | (simp only [List.length_drop, List.length_take]; rfl)) ?_; (with_reducible refine (sprlaw13_first.calls k2  true _ A43.out).mono ?_); rintro e w60 ⟨rfl, hb⟩; refine ⟨_, rfl, ?_⟩; have n0_ := Aside0.mk (Kd.R_below (by (with_reducible repeat (first | apply Kd.R_alloc | apply Kd.R_drewN | apply Kd.R_drew)); exact HO_9.out) hb); have n1_ := Aside0.mk (Kd.R_below (by (with_reducible repeat (first | apply Kd.R_alloc | apply Kd.R_drewN | apply Kd.R_drew)); exact HO_14.out) hb); have n2_ := Aside0.mk (below_step (by repeat (first | (with_reducible first | exact HB.out | apply below_alloc | apply pw_below_drewN | apply below_drew1) | exact HB.out)) hb); clear HO_9; clear HO_14; clear HB; have HO_9 := n0_; have HO_14 := n1_; have HB := n2_; clear n0_ n1_ n2_; (try clear hb); (try clear hb2); (try clear hk); (try clear hi)) | (go_at_call 19; (with_reducible refine (head_All.calls k2 _ _ t377 a2 t393 _ ?side1 ?side2 A46.out).mono ?_); (case side1 => repeat (first | exact (Kd.R_reads' HO_9.out).2.2 | (with_reducible refine Kd.C_alloc ?_ _) | (with_reducible refine Kd.C_drewN ?_ _) | (with_reducible refine Kd.C_drew ?_))); (case side2 => exact (Kd.R_reads' HO_9.out).2.1); rintro e w61 ⟨v394, rfl, ho0, hb⟩; have n0_ := Aside0.mk (Kd.R_below (by (with_reducible repeat (first | apply Kd.R_alloc | apply Kd.R_drewN | apply Kd.R_drew)); exact HO_9.out) hb); have n1_ := Aside0.mk (Kd.R_below (by (with_reducible repeat (first | apply Kd.R_alloc | apply Kd.R_drewN | apply Kd.R_drew)); exact HO_14.out) hb); have n2_ := Aside0.mk (Kd.R_lower ho0 (below_size (by repeat (first | (with_reducible first | exact HB.out | apply below_alloc | apply pw_below_drewN | apply below_drew1) | exact HB.out)))); have n3_ := Aside0.mk (below_step (by repeat (first | (with_reducible first | exact HB.out | apply below_alloc | apply pw_below_drewN | apply below_drew1) | exact HB.out)) hb); clear HO_9; clear HO_14; clear HB; have HO_9 := n0_; have HO_14 := n1_; have HO395 := n2_; have HB := n3_; clear n0_ n1_ n2_ n3_; (try clear hb); (try clear hb2); (try clear hk); (try clear hi); (try clear ho0)) | (go_at_call 37; (with_reducible refine (sprref12_All.calls k2 _ _ l0 a2 t396 _ ?side1 ?side2 A47.out).mono ?_); (case side1 => repeat (first | exact (Kd.C_below HR0.out HB.out) | (with_reducible refine Kd.C_alloc ?_ _) | (with_reducible refine Kd.C_drewN ?_ _) | (with_reducible refine Kd.C_drew ?_))); (case side2 => exact HC0.out); rintro e w62 ⟨v397, rfl, ho0, hb⟩; have n0_ := Aside0.mk (Kd.R_below (by (with_reducible repeat (first | apply Kd.R_alloc | apply Kd.R_drewN | apply Kd.R_drew)); exact HO_9.out) hb); have n1_ := Aside0.mk (Kd.R_below (by (with_reducible repeat (first | apply Kd.R_alloc | apply Kd.R_drewN | apply Kd.R_drew)); exact HO_14.out) hb); have n2_ := Aside0.mk (Kd.R_elder' (by (with_reducible repeat (first | apply Kd.R_alloc | apply Kd.R_drewN | apply Kd.R_drew)); exact HO395.out) (Kd.R_base ho0) hb); have n3_ := Aside0.mk (Kd.R_lower (Kd.R_new' ho0 (Kd.R_lt (by (with_reducible repeat (first | apply Kd.R_alloc | apply Kd.R_drewN | apply Kd.R_drew)); exact HO395.out))) (below_size (by repeat (first | (with_reducible first | exact HB.out | apply below_alloc | apply pw_below_drewN | apply below_drew1) | exact HB.out)))); have n4_ := Aside0.mk (below_step (by repeat (first | (with_reducible first | exact HB.out | apply below_alloc | apply pw_below_drewN | apply below_drew1) | exact HB.out)) hb); clear HO_9; clear HO_14; clear HO395; clear HB; have HO_9 := n0_; have HO_14 := n1_; have HO395 := n2_; have HO398 := n3_; have HB := n4_; clear n0_ n1_ n2_ n3_ n4_; (try clear hb); (try clear hb2); (try clear hk); (try clear hi); (try clear ho0); obtain ⟨Ao63, co63, eo63⟩ := Kd.R_slice HO395.out; subst eo63; obtain ⟨Ao64, co64, eo64⟩ := Kd.R_slice HO398.out; subst eo64) | (go_at_call 13; (with_reducible refine (sprref_Texts.calls k2 _ _ t393 _ _ t396 true _ ?side1 ?side2 ?side3 ?side4 A48.out).mono ?_); (case side1 => repeat (first | exact (Kd.R_reads' HO395.out).2.2 | (with_reducible refine Kd.C_alloc ?_ _) | (with_reducible refine Kd.C_drewN ?_ _) | (with_reducible refine Kd.C_drew ?_))); (case side2 => exact (Kd.R_reads' HO395.out).2.1); (case side3 => repeat (first | exact (Kd.R_reads' HO398.out).2.2 | (with_reducible refine Kd.C_alloc ?_ _) | (with_reducible refine Kd.C_drewN ?_ _) | (with_reducible refine Kd.C_drew ?_))); (case side4 => exact (Kd.R_reads' HO398.out).2.1); rintro e w' ⟨rfl, ⟨nd, rfl⟩⟩) | (go_at_call 32; (with_reducible refine (head_Drop.calls _ _ t377 a2 t400 _ ?side1 ?side2 A52.out).mono ?_); (case side1 => repeat (first | exact (Kd.R_reads' HO_9.out).2.2 | (with_reducible refine Kd.C_alloc ?_ _) | (with_reducible refine Kd.C_drewN ?_ _) | (with_reducible refine Kd.C_drew ?_))); (case side2 => exact (Kd.R_reads' HO_9.out).2.1); rintro e w65 ⟨v401, rfl, ho0, hb⟩; have n0_ := Aside0.mk (Kd.R_elder' (by (with_reducible repeat (first | apply Kd.R_alloc | apply Kd.R_drewN | apply Kd.R_drew)); exact HO_9.out) (Kd.R_base ho0) hb); have n1_ := Aside0.mk (Kd.R_elder' (by (with_reducible repeat (first | apply Kd.R_alloc | apply Kd.R_drewN | apply Kd.R_drew)); exact HO_14.out) (Kd.R_base ho0) hb); have n2_ := Aside0.mk (Kd.R_below (by (with_reducible repeat (first | apply Kd.R_alloc | apply Kd.R_drewN | apply Kd.R_drew)); exact HO395.out) hb); have n3_ := Aside0.mk (Kd.R_below (by (with_reducible repeat (first | apply Kd.R_alloc | apply Kd.R_drewN | apply Kd.R_drew)); exact HO398.out) hb); have n4_ := Aside0.mk (Kd.R_lower (Kd.R_new' (Kd.R_new' ho0 (Kd.R_lt (by (with_reducible repeat (first | apply Kd.R_alloc | apply Kd.R_drewN | apply Kd.R_drew)); exact HO_9.out))) (Kd.R_lt (by (with_reducible repeat (first | apply Kd.R_alloc | apply Kd.R_drewN | apply Kd.R_drew)); exact HO_14.out))) (below_size (by repeat (first | (with_reducible first | exact HB.out | apply below_alloc | apply pw_below_drewN | apply below_drew1) | exact HB.out)))); have n5_ := Aside0.mk (below_step (by repeat (first | (with_reducible first | exact HB.out | apply below_alloc | apply pw_below_drewN | apply below_drew1) | exact HB.out)) hb); clear HO_9; clear HO_14; clear HO395; clear HO398; clear HB; have HO_9 := n0_; have HO_14 := n1_; have HO395 := n2_; have HO398 := n3_; have HO402 := n4_; have HB := n5_; clear n0_ n1_ n2_ n3_ n4_ n5_; (try clear hb); (try clear hb2); (try clear hk); (try clear hi); (try clear ho0)) | (go_at_call 38; (with_reducible refine (sprref12_Drop.calls k2 _ _ l0 a2 t403 _ ?side1 ?side2 A53.out).mono ?_); (case side1 => repeat (first | exact (Kd.C_below HR0.out HB.out) | (with_reducible refine Kd.C_alloc ?_ _) | (with_reducible refine Kd.C_drewN ?_ _) | (with_reducible refine Kd.C_drew ?_))); (case side2 => exact HC0.out); rintro e w66 ⟨v404, rfl, ho0, hb⟩; have n0_ := Aside0.mk (Kd.R_elder' (by (with_reducible repeat (first | apply Kd.R_alloc | apply Kd.R_drewN | apply Kd.R_drew)); exact HO_9.out) (Kd.R_base ho0) hb); have n1_ := Aside0.mk (Kd.R_elder' (by (with_reducible repeat (first | apply Kd.R_alloc | apply Kd.R_drewN | apply Kd.R_drew)); exact HO_14.out) (Kd.R_base ho0) hb); have n2_ := Aside0.mk (Kd.R_below (by (with_reducible repeat (first | apply Kd.R_alloc | apply Kd.R_drewN | apply Kd.R_drew)); exact HO395.out) hb); have n3_ := Aside0.mk (Kd.R_below (by (with_reducible repeat (first | apply Kd.R_alloc | apply Kd.R_drewN | apply Kd.R_drew)); exact HO398.out) hb); have n4_ := Aside0.mk (Kd.R_elder' (by (with_reducible repeat (first | apply Kd.R_alloc | apply Kd.R_drewN | apply Kd.R_drew)); exact HO402.out) (Kd.R_base ho0) hb); have n5_ := Aside0.mk (Kd.R_lower (Kd.R_new' (Kd.R_new' (Kd.R_new' ho0 (Kd.R_lt (by (with_reducible repeat (first | apply Kd.R_alloc | apply Kd.R_drewN | apply Kd.R_drew)); exact HO_9.out))) (Kd.R_lt (by (with_reducible repeat (first | apply Kd.R_alloc | apply Kd.R_drewN | apply Kd.R_drew)); exact HO_14.out))) (Kd.R_lt (by (with_reducible repeat (first | apply Kd.R_alloc | apply Kd.R_drewN | apply Kd.R_drew)); exact HO402.out))) (below_size (by repeat (first | (with_reducible first | exact HB.out | apply below_alloc | apply pw_below_drewN | apply below_drew1) | exact HB.out)))); have n6_ := Aside0.mk (below_step (by repeat (first | (with_reducible first | exact HB.out | apply below_alloc | apply pw_below_drewN | apply below_drew1) | exact HB.out)) hb); clear HO_9; clear HO_14; clear HO395; clear HO398; clear HO402; clear HB; have HO_9 := n0_; have HO_14 := n1_; have HO395 := n2_; have HO398 := n3_; have HO402 := n4_; have HO405 := n5_; have HB := n6_; clear n0_ n1_ n2_ n3_ n4_ n5_ n6_; (try clear hb); (try clear hb2); (try clear hk); (try clear hi); (try clear ho0); obtain ⟨Ao67, co67, eo67⟩ := Kd.R_slice HO402.out; subst eo67; obtain ⟨Ao68, co68, eo68⟩ := Kd.R_slice HO405.out; subst eo68) | (go_at_call 16; (with_reducible refine (sprref_Fields.calls k2 _ _ t400 _ _ t403 true _ ?side1 ?side2 ?side3 ?side4 A54.out).mono ?_); (case side1 => repeat (first | exact (Kd.R_reads' HO402.out).2.2 | (with_reducible refine Kd.C_alloc ?_ _) | (with_reducible refine Kd.C_drewN ?_ _) | (with_reducible refine Kd.C_drew ?_))); (case side2 => exact (Kd.R_reads' HO402.out).2.1); (case side3 => repeat (first | exact (Kd.R_reads' HO405.out).2.2 | (with_reducible refine Kd.C_alloc ?_ _) | (with_reducible refine Kd.C_drewN ?_ _) | (with_reducible refine Kd.C_drew ?_))); (case side4 => exact (Kd.R_reads' HO405.out).2.1); rintro e w' ⟨rfl, ⟨nd, rfl⟩⟩) | (go_at_call 39; (with_reducible refine (head_Same.calls k2 _ _ t377 _ _ l1 t407 _ ?side1 ?side2 ?side3 ?side4 A56.out).mono ?_); (case side1 => repeat (first | exact (Kd.R_reads' HO_9.out).2.2 | (with_reducible refine Kd.C_alloc ?_ _) | (with_reducible refine Kd.C_drewN ?_ _) | (with_reducible refine Kd.C_drew ?_))); (case side2 => exact (Kd.R_reads' HO_9.out).2.1); (case side3 => repeat (first | exact (Kd.C_below HR1.out (by repeat (first | (with_reducible first | exact HB.out | apply below_alloc | apply pw_below_drewN | apply below_drew1) | exact HB.out))) | (with_reducible refine Kd.C_alloc ?_ _) | (with_reducible refine Kd.C_drewN ?_ _) | (with_reducible refine Kd.C_drew ?_))); (case side4 => exact HC1.out); rintro e w' ⟨rfl, ⟨nd, rfl⟩⟩) | (go_at_call 16; (with_reducible refine (sprref_Fields.calls k2 _ _ l0 _ _ l1 t408 _ ?side1 ?side2 ?side3 ?side4 A57.out).mono ?_); (case side1 => repeat (first | exact (Kd.C_below HR0.out (by repeat (first | (with_reducible first | exact HB.out | apply below_alloc | apply pw_below_drewN | apply below_drew1) | exact HB.out))) | (with_reducible refine Kd.C_alloc ?_ _) | (with_reducible refine Kd.C_drewN ?_ _) | (with_reducible refine Kd.C_drew ?_))); (case side2 => exact HC0.out); (case side3 => repeat (first | exact (Kd.C_below HR1.out (by repeat (first | (with_reducible first | exact HB.out | apply below_alloc | apply pw_below_drewN | apply below_drew1) | exact HB.out))) | (with_reducible refine Kd.C_alloc ?_ _) | (with_reducible refine Kd.C_drewN ?_ _) | (with_reducible refine Kd.C_drew ?_))); (case side4 => exact HC1.out); rintro e w' ⟨rfl, ⟨nd, rfl⟩⟩) | (go_at_call 16; (with_reducible refine (sprref_Fields.calls k2 _ _ t377 _ _ l0 t409 _ ?side1 ?side2 ?side3 ?side4 A59.out).mono ?_); (case side1 => repeat (first | exact (Kd.R_reads' HO_9.out).2.2 | (with_reducible refine Kd.C_alloc ?_ _) | (with_reducible refine Kd.C_drewN ?_ _) | (with_reducible refine Kd.C_drew ?_))); (case side2 => exact (Kd.R_reads' HO_9.out).2.1); (case side3 => repeat (first | exact (Kd.C_below HR0.out (by repeat (first | (with_reducible first | exact HB.out | apply below_alloc | apply pw_below_drewN | apply below_drew1) | exact HB.out))) | (with_reducible refine Kd.C_alloc ?_ _) | (with_reducible refine Kd.C_drewN ?_ _) | (with_reducible refine Kd.C_drew ?_))); (case side4 => exact HC0.out); rintro e w' ⟨rfl, ⟨nd, rfl⟩⟩))
                              go_ret
                              exact ⟨by first | rfl | (simp [errW_none, errW_some] <;> rfl) | (simp [*, errW_none, errW_some] <;> rfl), by repeat (first | (with_reducible first | exact HB.out | apply below_alloc | apply pw_below_drewN | apply below_drew1) | exact HB.out)⟩
                            · rw [if_neg c58] at H
                              have c58b0 : (t407 == t408) = false := by simpa using c58
                              (try (have c58b1 : decide (t407 = t408) = false := by simpa using c58))
                              (try (have c58b2 : (t407 == t408) = false := by simpa using c58))
                              (try (have c58b3 : ¬ (t407 = t408) := by simpa using c58))
                              clear c58
                              exact absurd ((Option.some.inj H).trans hT.out) (by decide)
                          · replace c55 := Bool.eq_false_iff.mpr c55
                            subst c55
                            have H1 : (some false) = some r := by rw [if_neg (show ¬ (false = true) by decide)] at H; exact H
                            clear H
                            have H := H1
                            clear H1
                            exact absurd ((Option.some.inj H).trans hT.out) (by decide)
                        · rw [if_neg c51] at H
                          have c51b0 : (t381 == t383) = false := by simpa using c51
                          (try (have c51b1 : decide (t381 = t383) = false := by simpa using c51))
                          (try (have c51b2 : (t381 == t383) = false := by simpa using c51))
                          (try (have c51b3 : ¬ (t381 = t383) := by simpa using c51))
                          clear c51
                          exact absurd ((Option.some.inj H).trans hT.out) (by decide)
                      · rw [if_neg c50] at H
                        have c50b0 : (t380.toList == t382.toList) = false := beq_eq_false_iff_ne.mpr c50
                        have c50b1 : (t380.toList != t382.toList) = true := bne_iff_ne.mpr c50
                        exact absurd ((Option.some.inj H).trans hT.out) (by decide)
                    · replace c49 := Bool.eq_false_iff.mpr c49
                      subst c49
                      have H1 : (some false) = some r := by rw [if_neg (show ¬ (false = true) by decide)] at H; exact H
                      clear H
                      have H := H1
                      clear H1
                      exact absurd ((Option.some.inj H).trans hT.out) (by decide)
                  · replace c45 := Bool.eq_false_iff.mpr c45
                    subst c45
                    have H1 : (some false) = some r := by rw [if_neg (show ¬ (false = true) by decide)] at H; exact H
                    clear H
                    have H := H1
                    clear H1
                    exact absurd ((Option.some.inj H).trans hT.out) (by decide)
                · replace c44 := Bool.eq_false_iff.mpr c44
                  subst c44
                  have H1 : (some false) = some r := by rw [if_neg (show ¬ (false = true) by decide)] at H; exact H
                  clear H
                  have H := H1
                  clear H1
                  exact absurd ((Option.some.inj H).trans hT.out) (by decide)
  · replace c6 := Bool.eq_false_iff.mpr c6
    subst c6
    have H1 : (some false) = some r := by rw [if_neg (show ¬ (false = true) by decide)] at H; exact H
    clear H
    have H := H1
    clear H1
    exact absurd ((Option.some.inj H).trans hT.out) (by decide)

end Go.Proofs.YtmcjmmdejgoamaaDoor.Q
