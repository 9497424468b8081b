-- Written by a program of this session's (wip/xprint.py), out of the seat's translation.
import Derived.Test.YtmcjmmdejgoamaaDoorQ0
import Derived.Test.YtmcjmmdejgoamaaDoorQ2
import Derived.Test.YtmcjmmdejgoamaaDoorQ3
import Derived.Test.YtmcjmmdejgoamaaDoorQ4
import Derived.Test.YtmcjmmdejgoamaaDoorQ5
import Derived.Test.YtmcjmmdejgoamaaDoorQ6
import Derived.Test.YtmcjmmdejgoamaaDoorQ9
import Derived.Test.YtmcjmmdejgoamaaDoorQ10
namespace Go.Proofs.YtmcjmmdejgoamaaDoor.Q
open Go.RowKit Go.Proofs.YtmcjmmdejgoamaaDoorW.PrintWords Go.Proofs.YtmcjmmdejgoamaaDoorW.PrintLast Go.Proofs.YtmcjmmdejgoamaaDoorW.PrintMore
attribute [local go_sem] max2_int min2_int max_two min_two max_three min_three max_four min_four   -- for this text's walks alone
set_option linter.unusedVariables false
set_option linter.unusedSimpArgs false

/-! ### sprref12_May: function 30 -/
def sprref12_May.l0 : Nat → List (S45) → Int → Option (Bool)
  | 0, _, _ => none
  | k + 1, x0, x3 => if x3 < (x0.length : Int) then (if 0 ≤ x3 then ((sprref12_Name.f k ((rd_T45 x0 x3).f0)).bind fun t295 => (if t295 = true then ((sprref12_Value.f k ((rd_T45 x0 x3).f1)).bind fun t297 => (if t297 = true then (sprref12_May.l0 k x0 (wrap64 (x3 + 1))) else (some false))) else (some false))) else (none)) else (some (decide ((x0.length : Int) ≤ 64)))
def sprref12_May.f (k : Nat) (l0 : List (S45)) : Option (Bool) := sprref12_May.l0 k l0 0
theorem sprref12_May.mono_l : ∀ k, (∀ y0 y1, LeO (sprref12_May.l0 k y0 y1) (sprref12_May.l0 (k + 1) y0 y1))
  | 0 => fun _ _ r h => by simp [sprref12_May.l0] at h
  | k + 1 => by
    have ih0 := sprref12_May.mono_l k
    · intro y0 y1
      unfold sprref12_May.l0
      repeat' first
      | (with_reducible exact ih0 _ _)
      | (with_reducible exact sprref12_Name.mono _ _)
      | (with_reducible exact sprref12_Value.mono _ _)
      | (with_reducible exact LeO.refl _)
      | (with_reducible exact LeO.none _)
      | (with_reducible refine LeO.ite ?_ ?_)
      | (with_reducible refine LeO.bind ?_ (fun _ => ?_))
      | exact ih0 _ _
      | exact sprref12_Name.mono _ _
      | exact sprref12_Value.mono _ _
      | exact LeO.none _
      | refine LeO.ite ?_ ?_
      | refine LeO.bind ?_ (fun _ => ?_)
theorem sprref12_May.mono : ∀ a0 k, LeO (sprref12_May.f k a0) (sprref12_May.f (k + 1) a0) := by
  intro a0 k
  have ih0 := sprref12_May.mono_l k
  unfold sprref12_May.f
  repeat' first
      | (with_reducible exact ih0 _ _)
      | (with_reducible exact sprref12_Name.mono _ _)
      | (with_reducible exact sprref12_Value.mono _ _)
      | (with_reducible exact LeO.refl _)
      | (with_reducible exact LeO.none _)
      | (with_reducible refine LeO.ite ?_ ?_)
      | (with_reducible refine LeO.bind ?_ (fun _ => ?_))
      | exact ih0 _ _
      | exact sprref12_Name.mono _ _
      | exact sprref12_Value.mono _ _
      | exact LeO.none _
      | refine LeO.ite ?_ ?_
      | refine LeO.bind ?_ (fun _ => ?_)
set_option maxHeartbeats 8000000 in
set_option maxRecDepth 100000 in
theorem sprref12_May.calls (k : Nat) (A0 : Option Addr) (c0 : Nat) (l0 : List (S45)) (r : Bool) (w : World) (hr0 : Kd.C k45 w A0 l0.length l0) (hc0 : l0.length ≤ c0) (h : sprref12_May.f k l0 = some r) :
    Calls Tryd.prog 30 #[.slice A0 l0.length c0] w fun e w' => e = .returned (.bool r) ∧ Drawn0 w w' := by
  have HR0 := Aside0.mk hr0
  have HC0 := Aside0.mk hc0
  clear hr0 hc0
  have H : (sprref12_May.l0 k l0 0) = some r := h
  clear h
  have H' := Aside0.mk H
  clear H
  go_enter Tryd.func30, Tryd.ntmps30
  go_wp2
  go_loopg [3] k (fun kq v3 w' => ∃ (x3_1 : Int), v3 = .int .i64 x3_1 ∧ Aside0 (sprref12_May.l0 kq l0 x3_1 = some r) ∧ Aside0 (kq ≤ k) ∧ Drawn0 w w')
  case atStart => exact ⟨(0), (by first | rfl | (simp; done) | (simp [*]; done)), H', ⟨Nat.le_refl _⟩, by repeat (first | exact Drawn0.refl _ | apply Drawn0.step)⟩
  case round =>
    clear H'
    obtain ⟨x3_1, rfl, HA, HK1, ⟨m1, rfl⟩⟩ := hrel
    cases gk with
    | zero => exact absurd HA.out (by simp [sprref12_May.l0])
    | succ k1 =>
      have H := HA.out
      clear HA
      simp only [sprref12_May.l0] at H
      by_cases c2 : x3_1 < (l0.length : Int)
      · rw [if_pos c2] at H
        have c2b0 : decide (x3_1 < (l0.length : Int)) = true := decide_eq_true c2
        clear c2
        by_cases c3 : 0 ≤ x3_1
        · rw [if_pos c3] at H
          have c3b0 : decide (0 ≤ x3_1) = true := decide_eq_true c3
          clear c3
          replace H := Option.bind_eq_some_iff.mp H
          obtain ⟨t295, A40, H⟩ := H
          replace H : (if t295 = true then ((sprref12_Value.f k1 ((rd_T45 l0 x3_1).f1)).bind fun t297 => (if t297 = true then (sprref12_May.l0 k1 l0 (wrap64 (x3_1 + 1))) else (some false))) else (some false)) = some r := H
          have A4 := Aside0.mk A40
          clear A40
          by_cases c5 : t295 = true
          · subst c5
            have H1 : ((sprref12_Value.f k1 ((rd_T45 l0 x3_1).f1)).bind fun t297 => (if t297 = true then (sprref12_May.l0 k1 l0 (wrap64 (x3_1 + 1))) else (some false))) = some r := by rw [if_pos rfl] at H; exact H
            clear H
            have H := H1
            clear H1
            replace H := Option.bind_eq_some_iff.mp H
            obtain ⟨t297, A60, H⟩ := H
            replace H : (if t297 = true then (sprref12_May.l0 k1 l0 (wrap64 (x3_1 + 1))) else (some false)) = some r := H
            have A6 := Aside0.mk A60
            clear A60
            by_cases c7 : t297 = true
            · subst c7
              have H1 : (sprref12_May.l0 k1 l0 (wrap64 (x3_1 + 1))) = some r := by rw [if_pos rfl] at H; exact H
              clear H
              have H := H1
              clear H1
              have H' := Aside0.mk H
              clear H
              have p294 : 0 ≤ (x3_1 : Int) := of_decide_eq_true (by first | (with_reducible assumption) | assumption)
              have q294 : x3_1 < (l0.length : Int) := of_decide_eq_true (by first | (with_reducible assumption) | assumption)
              obtain ⟨ad294, e294, hx294_0, hx294_1⟩ := at_T45 HR0.out x3_1 p294 q294
              cases e294
              replace p294 := eq_true p294
              replace q294 := eq_true q294
              go_wp2_with (first | ((with_reducible refine gate_callee (f := 24) rfl ?_); refine goesL_ (some 15) rfl rfl Tryd.func24 (by kernel_rfl) rfl #[.string ((rd_T45 l0 x3_1).f0)] rfl (by (try simp only [List.map_toArray, List.map_cons, List.map_nil]); first | done | rfl | (simp only [List.length_drop, List.length_take]; rfl)) ?_; (with_reducible refine (sprref12_Name.calls k1 ((rd_T45 l0 x3_1).f0) true _ A4.out).mono ?_); rintro e w' ⟨rfl, ⟨nd, rfl⟩⟩; refine ⟨_, rfl, ?_⟩; have p296 : 0 ≤ (x3_1 : Int) := of_decide_eq_true (by first | (with_reducible assumption) | assumption); have q296 : x3_1 < (l0.length : Int) := of_decide_eq_true (by first | (with_reducible assumption) | assumption); obtain ⟨ad296, e296, hx296_0, hx296_1⟩ := at_T45 HR0.out x3_1 p296 q296; obtain rfl : ad294 = ad296 := (by injection e296); replace p296 := eq_true p296; replace q296 := eq_true q296) | (go_at_call 26; (with_reducible refine (sprref12_Value.calls k1 ((rd_T45 l0 x3_1).f1) true _ A6.out).mono ?_); rintro e w' ⟨rfl, ⟨nd, rfl⟩⟩))
              go_roundg k1
              case measure => have := HK1.out; omega
              case rel => exact ⟨(wrap64 (x3_1 + 1)), (by first | rfl | (simp; done) | (simp [*]; done)), H', ⟨by have := HK1.out; omega⟩, by repeat (first | exact Drawn0.refl _ | apply Drawn0.step)⟩
            · replace c7 := Bool.eq_false_iff.mpr c7
              subst c7
              have H1 : (some false) = some r := by rw [if_neg (show ¬ (false = true) by decide)] at H; exact H
              clear H
              have H := H1
              clear H1
              obtain rfl := Option.some.inj H
              have p294 : 0 ≤ (x3_1 : Int) := of_decide_eq_true (by first | (with_reducible assumption) | assumption)
              have q294 : x3_1 < (l0.length : Int) := of_decide_eq_true (by first | (with_reducible assumption) | assumption)
              obtain ⟨ad294, e294, hx294_0, hx294_1⟩ := at_T45 HR0.out x3_1 p294 q294
              cases e294
              replace p294 := eq_true p294
              replace q294 := eq_true q294
              go_wp2_with (first | ((with_reducible refine gate_callee (f := 24) rfl ?_); refine goesL_ (some 15) rfl rfl Tryd.func24 (by kernel_rfl) rfl #[.string ((rd_T45 l0 x3_1).f0)] rfl (by (try simp only [List.map_toArray, List.map_cons, List.map_nil]); first | done | rfl | (simp only [List.length_drop, List.length_take]; rfl)) ?_; (with_reducible refine (sprref12_Name.calls k1 ((rd_T45 l0 x3_1).f0) true _ A4.out).mono ?_); rintro e w' ⟨rfl, ⟨nd, rfl⟩⟩; refine ⟨_, rfl, ?_⟩; have p296 : 0 ≤ (x3_1 : Int) := of_decide_eq_true (by first | (with_reducible assumption) | assumption); have q296 : x3_1 < (l0.length : Int) := of_decide_eq_true (by first | (with_reducible assumption) | assumption); obtain ⟨ad296, e296, hx296_0, hx296_1⟩ := at_T45 HR0.out x3_1 p296 q296; obtain rfl : ad294 = ad296 := (by injection e296); replace p296 := eq_true p296; replace q296 := eq_true q296) | (go_at_call 26; (with_reducible refine (sprref12_Value.calls k1 ((rd_T45 l0 x3_1).f1) false _ A6.out).mono ?_); rintro e w' ⟨rfl, ⟨nd, rfl⟩⟩))
              go_ret
              exact ⟨by first | rfl | (simp; done) | (simp [*]; done), by repeat (first | exact Drawn0.refl _ | apply Drawn0.step)⟩
          · replace c5 := Bool.eq_false_iff.mpr c5
            subst c5
            have H1 : (some false) = some r := by rw [if_neg (show ¬ (false = true) by decide)] at H; exact H
            clear H
            have H := H1
            clear H1
            obtain rfl := Option.some.inj H
            have p294 : 0 ≤ (x3_1 : Int) := of_decide_eq_true (by first | (with_reducible assumption) | assumption)
            have q294 : x3_1 < (l0.length : Int) := of_decide_eq_true (by first | (with_reducible assumption) | assumption)
            obtain ⟨ad294, e294, hx294_0, hx294_1⟩ := at_T45 HR0.out x3_1 p294 q294
            cases e294
            replace p294 := eq_true p294
            replace q294 := eq_true q294
            go_wp2_with (first | ((with_reducible refine gate_callee (f := 24) rfl ?_); refine goesL_ (some 15) rfl rfl Tryd.func24 (by kernel_rfl) rfl #[.string ((rd_T45 l0 x3_1).f0)] rfl (by (try simp only [List.map_toArray, List.map_cons, List.map_nil]); first | done | rfl | (simp only [List.length_drop, List.length_take]; rfl)) ?_; (with_reducible refine (sprref12_Name.calls k1 ((rd_T45 l0 x3_1).f0) false _ A4.out).mono ?_); rintro e w' ⟨rfl, ⟨nd, rfl⟩⟩; refine ⟨_, rfl, ?_⟩))
            go_ret
            exact ⟨by first | rfl | (simp; done) | (simp [*]; done), by repeat (first | exact Drawn0.refl _ | apply Drawn0.step)⟩
        · rw [if_neg c3] at H
          exact absurd H (by simp)
      · rw [if_neg c2] at H
        have c2b0 : decide (x3_1 < (l0.length : Int)) = false := decide_eq_false c2
        clear c2
        obtain rfl := Option.some.inj H
        go_wp2
        go_ret
        exact ⟨by first | rfl | (simp; done) | (simp [*]; done), by repeat (first | exact Drawn0.refl _ | apply Drawn0.step)⟩

/-! ### sprlaw13_HeadWords: function 6 -/
def sprlaw13_HeadWords.j0 : Nat → ByteArray → List (S45) → Bool → Option (Bool)
  | 0, _, _, _ => none
  | k + 1, x0, x1, x14 => if x14 = true then ((sprlaw13_first.f k).bind fun t300 => (some t300)) else ((sprlaw13_first.f k).bind fun t301 => (if t301 = true then ((head_Name.f k x0).bind fun t302 => ((sprref12_Name.f k x0).bind fun t303 => (if (t302 == t303) = true then ((head_Value.f k x0).bind fun t304 => ((sprref12_Value.f k x0).bind fun t305 => (if (t304 == t305) = true then ((head_Lower.f x0).bind fun t306 => ((sprref12_Lower.f x0).bind fun t307 => (if t306.toList = t307.toList then ((head_Trim.f x0).bind fun t308 => ((sprref12_Trim.f k x0).bind fun t309 => (if t308.toList = t309.toList then ((head_May.f k x1).bind fun t310 => ((sprref12_May.f k x1).bind fun t311 => (some (t310 == t311)))) else (some false)))) else (some false)))) else (some false)))) else (some false)))) else (some false)))
def sprlaw13_HeadWords.f (k : Nat) (a0 : ByteArray) (l1 : List (S45)) : Option (Bool) := (sprlaw13_first.f k).bind fun t298 => (if t298 = true then (if (a0.size : Int) > 20000 then (sprlaw13_HeadWords.j0 k a0 l1 true) else ((sprlaw13_Few.f k l1).bind fun t299 => (sprlaw13_HeadWords.j0 k a0 l1 (!t299)))) else (some false))
theorem sprlaw13_HeadWords.mono_l : ∀ k, (∀ y0 y1 y2, LeO (sprlaw13_HeadWords.j0 k y0 y1 y2) (sprlaw13_HeadWords.j0 (k + 1) y0 y1 y2))
  | 0 => fun _ _ _ r h => by simp [sprlaw13_HeadWords.j0] at h
  | k + 1 => by
    have ih0 := sprlaw13_HeadWords.mono_l k
    · intro y0 y1 y2
      unfold sprlaw13_HeadWords.j0
      repeat' first
      | (with_reducible exact ih0 _ _ _)
      | (with_reducible exact head_May.mono _ _)
      | (with_reducible exact head_Name.mono _ _)
      | (with_reducible exact head_Value.mono _ _)
      | (with_reducible exact sprlaw13_Few.mono _ _)
      | (with_reducible exact sprlaw13_first.mono _)
      | (with_reducible exact sprref12_May.mono _ _)
      | (with_reducible exact sprref12_Name.mono _ _)
      | (with_reducible exact sprref12_Trim.mono _ _)
      | (with_reducible exact sprref12_Value.mono _ _)
      | (with_reducible exact LeO.refl _)
      | (with_reducible exact LeO.none _)
      | (with_reducible refine LeO.ite ?_ ?_)
      | (with_reducible refine LeO.bind ?_ (fun _ => ?_))
      | exact ih0 _ _ _
      | exact head_May.mono _ _
      | exact head_Name.mono _ _
      | exact head_Value.mono _ _
      | exact sprlaw13_Few.mono _ _
      | exact sprlaw13_first.mono _
      | exact sprref12_May.mono _ _
      | exact sprref12_Name.mono _ _
      | exact sprref12_Trim.mono _ _
      | exact sprref12_Value.mono _ _
      | exact LeO.none _
      | refine LeO.ite ?_ ?_
      | refine LeO.bind ?_ (fun _ => ?_)
theorem sprlaw13_HeadWords.mono : ∀ a0 a1 k, LeO (sprlaw13_HeadWords.f k a0 a1) (sprlaw13_HeadWords.f (k + 1) a0 a1) := by
  intro a0 a1 k
  have ih0 := sprlaw13_HeadWords.mono_l k
  unfold sprlaw13_HeadWords.f
  repeat' first
      | (with_reducible exact ih0 _ _ _)
      | (with_reducible exact head_May.mono _ _)
      | (with_reducible exact head_Name.mono _ _)
      | (with_reducible exact head_Value.mono _ _)
      | (with_reducible exact sprlaw13_Few.mono _ _)
      | (with_reducible exact sprlaw13_first.mono _)
      | (with_reducible exact sprref12_May.mono _ _)
      | (with_reducible exact sprref12_Name.mono _ _)
      | (with_reducible exact sprref12_Trim.mono _ _)
      | (with_reducible exact sprref12_Value.mono _ _)
      | (with_reducible exact LeO.refl _)
      | (with_reducible exact LeO.none _)
      | (with_reducible refine LeO.ite ?_ ?_)
      | (with_reducible refine LeO.bind ?_ (fun _ => ?_))
      | exact ih0 _ _ _
      | exact head_May.mono _ _
      | exact head_Name.mono _ _
      | exact head_Value.mono _ _
      | exact sprlaw13_Few.mono _ _
      | exact sprlaw13_first.mono _
      | exact sprref12_May.mono _ _
      | exact sprref12_Name.mono _ _
      | exact sprref12_Trim.mono _ _
      | exact sprref12_Value.mono _ _
      | exact LeO.none _
      | refine LeO.ite ?_ ?_
      | refine LeO.bind ?_ (fun _ => ?_)
set_option maxHeartbeats 8000000 in
set_option maxRecDepth 100000 in
theorem sprlaw13_HeadWords.calls (k : Nat) (a0 : ByteArray) (A1 : Option Addr) (c1 : Nat) (l1 : List (S45)) (r : Bool) (w : World) (hr1 : Kd.C k45 w A1 l1.length l1) (hc1 : l1.length ≤ c1) (h : sprlaw13_HeadWords.f k a0 l1 = some r) (hT : Aside0 (r = true)) :
    Calls Tryd.prog 6 #[.string a0, .slice A1 l1.length c1] w fun e w' => e = .returned (.bool r) ∧ Below w.heap.size w w' := by
  have HR1 := Aside0.mk hr1
  have HC1 := Aside0.mk hc1
  clear hr1 hc1
  have HB := Aside0.mk (Below.refl w.heap.size w)
  have H : ((sprlaw13_first.f k).bind fun t298 => (if t298 = true then (if (a0.size : Int) > 20000 then (sprlaw13_HeadWords.j0 k a0 l1 true) else ((sprlaw13_Few.f k l1).bind fun t299 => (sprlaw13_HeadWords.j0 k a0 l1 (!t299)))) else (some false))) = some r := h
  clear h
  replace H := Option.bind_eq_some_iff.mp H
  obtain ⟨t298, A30, H⟩ := H
  replace H : (if t298 = true then (if (a0.size : Int) > 20000 then (sprlaw13_HeadWords.j0 k a0 l1 true) else ((sprlaw13_Few.f k l1).bind fun t299 => (sprlaw13_HeadWords.j0 k a0 l1 (!t299)))) else (some false)) = some r := H
  have A3 := Aside0.mk A30
  clear A30
  by_cases c4 : t298 = true
  · subst c4
    have H1 : (if (a0.size : Int) > 20000 then (sprlaw13_HeadWords.j0 k a0 l1 true) else ((sprlaw13_Few.f k l1).bind fun t299 => (sprlaw13_HeadWords.j0 k a0 l1 (!t299)))) = some r := by rw [if_pos rfl] at H; exact H
    clear H
    have H := H1
    clear H1
    have HC5 := Aside0.mk H
    clear H
    go_enter Tryd.func6, Tryd.ntmps6
    go_upto_region 3 with (first | ((with_reducible refine gate_callee (f := 9) rfl ?_); refine goesL_ (some 5) rfl rfl Tryd.func9 (by kernel_rfl) rfl #[] rfl (by (try simp only [List.map_toArray, List.map_cons, List.map_nil]); first | done | rfl | (simp only [List.length_drop, List.length_take]; rfl)) ?_; (with_reducible refine (sprlaw13_first.calls k  true _ A3.out).mono ?_); rintro e w6 ⟨rfl, hb⟩; refine ⟨_, rfl, ?_⟩; have n0_ := Aside0.mk (below_step (by repeat (first | (with_reducible first | exact HB.out | apply below_alloc | apply pw_below_drewN | apply below_drew1) | exact HB.out)) hb); clear HB; have HB := n0_; clear n0_; (try clear hb); (try clear hb2); (try clear hk); (try clear hi)))
    (try simp only [Act.put, List.setIfInBounds_toArray, List.set_cons_zero, List.set_cons_succ])
    go_cut [14] (fun v14 wc => ∃ (kq : Nat) (x14_4 : Bool), v14 = .bool x14_4 ∧ Aside0 (sprlaw13_HeadWords.j0 kq a0 l1 x14_4 = some r) ∧ Aside0 (kq ≤ k) ∧ Aside0 (Below w.heap.size w wc))
    case first =>
      have H := HC5.out
      clear HC5
      by_cases c7 : (a0.size : Int) > 20000
      · rw [if_pos c7] at H
        have c7b0 : decide (20000 < (a0.size : Int)) = true := decide_eq_true c7
        have c7b1 : decide (20000 < a0.size) = true := decide_eq_true (by omega)
        clear c7
        (first | rw [c7b0] | (simp only [i64_w, i32_w]; rw [c7b0]) | skip)
        have H' := Aside0.mk H
        clear H
        go_wp2
        go_meet
        case rel => exact ⟨_, (true), (by first | rfl | (simp; done) | (simp [*]; done)), H', ⟨by first | omega | exact Nat.le_refl _⟩, ⟨by repeat (first | (with_reducible first | exact HB.out | apply below_alloc | apply pw_below_drewN | apply below_drew1) | exact HB.out)⟩⟩
      · rw [if_neg c7] at H
        have c7b0 : decide (20000 < (a0.size : Int)) = false := decide_eq_false c7
        have c7b1 : decide (20000 < a0.size) = false := decide_eq_false (by omega)
        clear c7
        (first | rw [c7b0] | (simp only [i64_w, i32_w]; rw [c7b0]) | skip)
        replace H := Option.bind_eq_some_iff.mp H
        obtain ⟨t299, A80, H⟩ := H
        replace H : (sprlaw13_HeadWords.j0 k a0 l1 (!t299)) = some r := H
        have A8 := Aside0.mk A80
        clear A80
        have H' := Aside0.mk H
        clear H
        go_wp2_with (first | (go_at_call 11; (with_reducible refine (sprlaw13_Few.calls k _ _ l1 t299 _ ?side1 ?side2 A8.out).mono ?_); (case side1 => repeat (first | exact (Kd.C_below HR1.out HB.out) | (with_reducible refine Kd.C_alloc ?_ _) | (with_reducible refine Kd.C_drewN ?_ _) | (with_reducible refine Kd.C_drew ?_))); (case side2 => exact HC1.out); rintro e w9 ⟨rfl, hb⟩; have n0_ := Aside0.mk (below_step (by repeat (first | (with_reducible first | exact HB.out | apply below_alloc | apply pw_below_drewN | apply below_drew1) | exact HB.out)) hb); clear HB; have HB := n0_; clear n0_; (try clear hb); (try clear hb2); (try clear hk); (try clear hi)))
        go_meet
        case rel => exact ⟨_, (!t299), (by first | rfl | (simp; done) | (simp [*]; done)), H', ⟨by first | omega | exact Nat.le_refl _⟩, ⟨by repeat (first | (with_reducible first | exact HB.out | apply below_alloc | apply pw_below_drewN | apply below_drew1) | exact HB.out)⟩⟩
    case rest =>
      clear HC5
      try clear c1
      try clear p2
      try clear c4
      try clear c6
      try clear c7
      try clear c7b0
      try clear c7b1
      try clear c9
      obtain ⟨kq, x14_4, rfl, HA, HJ4, HB⟩ := hcut
      cases kq with
      | zero => exact absurd HA.out (by simp [sprlaw13_HeadWords.j0])
      | succ kj4 =>
        have H := HA.out
        clear HA
        simp only [sprlaw13_HeadWords.j0] at H
        by_cases c10 : x14_4 = true
        · subst c10
          have H1 : ((sprlaw13_first.f kj4).bind fun t300 => (some t300)) = some r := by rw [if_pos rfl] at H; exact H
          clear H
          have H := H1
          clear H1
          replace H := Option.bind_eq_some_iff.mp H
          obtain ⟨t300, A110, H⟩ := H
          replace H : (some t300) = some r := H
          have A11 := Aside0.mk A110
          clear A110
          obtain rfl := Option.some.inj H
          go_wp2_with (first | ((with_reducible refine gate_callee (f := 9) rfl ?_); refine goesL_ (some 15) rfl rfl Tryd.func9 (by kernel_rfl) rfl #[] rfl (by (try simp only [List.map_toArray, List.map_cons, List.map_nil]); first | done | rfl | (simp only [List.length_drop, List.length_take]; rfl)) ?_; (with_reducible refine (sprlaw13_first.calls kj4  t300 _ A11.out).mono ?_); rintro e w12 ⟨rfl, hb⟩; refine ⟨_, rfl, ?_⟩; have n0_ := Aside0.mk (below_step (by repeat (first | (with_reducible first | exact HB.out | apply below_alloc | apply pw_below_drewN | apply below_drew1) | exact HB.out)) hb); clear HB; have HB := n0_; clear n0_; (try clear hb); (try clear hb2); (try clear hk); (try clear hi)))
          go_ret
          exact ⟨by first | rfl | (simp [errW_none, errW_some] <;> rfl) | (simp [*, errW_none, errW_some] <;> rfl), by repeat (first | (with_reducible first | exact HB.out | apply below_alloc | apply pw_below_drewN | apply below_drew1) | exact HB.out)⟩
        · replace c10 := Bool.eq_false_iff.mpr c10
          subst c10
          have H1 : ((sprlaw13_first.f kj4).bind fun t301 => (if t301 = true then ((head_Name.f kj4 a0).bind fun t302 => ((sprref12_Name.f kj4 a0).bind fun t303 => (if (t302 == t303) = true then ((head_Value.f kj4 a0).bind fun t304 => ((sprref12_Value.f kj4 a0).bind fun t305 => (if (t304 == t305) = true then ((head_Lower.f a0).bind fun t306 => ((sprref12_Lower.f a0).bind fun t307 => (if t306.toList = t307.toList then ((head_Trim.f a0).bind fun t308 => ((sprref12_Trim.f kj4 a0).bind fun t309 => (if t308.toList = t309.toList then ((head_May.f kj4 l1).bind fun t310 => ((sprref12_May.f kj4 l1).bind fun t311 => (some (t310 == t311)))) else (some false)))) else (some false)))) else (some false)))) else (some false)))) else (some false))) = some r := by rw [if_neg (show ¬ (false = true) by decide)] at H; exact H
          clear H
          have H := H1
          clear H1
          replace H := Option.bind_eq_some_iff.mp H
          obtain ⟨t301, A130, H⟩ := H
          replace H : (if t301 = true then ((head_Name.f kj4 a0).bind fun t302 => ((sprref12_Name.f kj4 a0).bind fun t303 => (if (t302 == t303) = true then ((head_Value.f kj4 a0).bind fun t304 => ((sprref12_Value.f kj4 a0).bind fun t305 => (if (t304 == t305) = true then ((head_Lower.f a0).bind fun t306 => ((sprref12_Lower.f a0).bind fun t307 => (if t306.toList = t307.toList then ((head_Trim.f a0).bind fun t308 => ((sprref12_Trim.f kj4 a0).bind fun t309 => (if t308.toList = t309.toList then ((head_May.f kj4 l1).bind fun t310 => ((sprref12_May.f kj4 l1).bind fun t311 => (some (t310 == t311)))) else (some false)))) else (some false)))) else (some false)))) else (some false)))) else (some false)) = some r := H
          have A13 := Aside0.mk A130
          clear A130
          by_cases c14 : t301 = true
          · subst c14
            have H1 : ((head_Name.f kj4 a0).bind fun t302 => ((sprref12_Name.f kj4 a0).bind fun t303 => (if (t302 == t303) = true then ((head_Value.f kj4 a0).bind fun t304 => ((sprref12_Value.f kj4 a0).bind fun t305 => (if (t304 == t305) = true then ((head_Lower.f a0).bind fun t306 => ((sprref12_Lower.f a0).bind fun t307 => (if t306.toList = t307.toList then ((head_Trim.f a0).bind fun t308 => ((sprref12_Trim.f kj4 a0).bind fun t309 => (if t308.toList = t309.toList then ((head_May.f kj4 l1).bind fun t310 => ((sprref12_May.f kj4 l1).bind fun t311 => (some (t310 == t311)))) else (some false)))) else (some false)))) else (some false)))) else (some false)))) = some r := by rw [if_pos rfl] at H; exact H
            clear H
            have H := H1
            clear H1
            replace H := Option.bind_eq_some_iff.mp H
            obtain ⟨t302, A150, H⟩ := H
            replace H : ((sprref12_Name.f kj4 a0).bind fun t303 => (if (t302 == t303) = true then ((head_Value.f kj4 a0).bind fun t304 => ((sprref12_Value.f kj4 a0).bind fun t305 => (if (t304 == t305) = true then ((head_Lower.f a0).bind fun t306 => ((sprref12_Lower.f a0).bind fun t307 => (if t306.toList = t307.toList then ((head_Trim.f a0).bind fun t308 => ((sprref12_Trim.f kj4 a0).bind fun t309 => (if t308.toList = t309.toList then ((head_May.f kj4 l1).bind fun t310 => ((sprref12_May.f kj4 l1).bind fun t311 => (some (t310 == t311)))) else (some false)))) else (some false)))) else (some false)))) else (some false))) = some r := H
            have A15 := Aside0.mk A150
            clear A150
            replace H := Option.bind_eq_some_iff.mp H
            obtain ⟨t303, A160, H⟩ := H
            replace H : (if (t302 == t303) = true then ((head_Value.f kj4 a0).bind fun t304 => ((sprref12_Value.f kj4 a0).bind fun t305 => (if (t304 == t305) = true then ((head_Lower.f a0).bind fun t306 => ((sprref12_Lower.f a0).bind fun t307 => (if t306.toList = t307.toList then ((head_Trim.f a0).bind fun t308 => ((sprref12_Trim.f kj4 a0).bind fun t309 => (if t308.toList = t309.toList then ((head_May.f kj4 l1).bind fun t310 => ((sprref12_May.f kj4 l1).bind fun t311 => (some (t310 == t311)))) else (some false)))) else (some false)))) else (some false)))) else (some false)) = some r := H
            have A16 := Aside0.mk A160
            clear A160
            by_cases c17 : (t302 == t303) = true
            · rw [if_pos c17] at H
              have c17b0 : (t302 == t303) = true := c17
              (try (have c17b1 : decide (t302 = t303) = true := by simpa using c17))
              (try (have c17b2 : (t302 == t303) = true := by simpa using c17))
              clear c17
              replace H := Option.bind_eq_some_iff.mp H
              obtain ⟨t304, A180, H⟩ := H
              replace H : ((sprref12_Value.f kj4 a0).bind fun t305 => (if (t304 == t305) = true then ((head_Lower.f a0).bind fun t306 => ((sprref12_Lower.f a0).bind fun t307 => (if t306.toList = t307.toList then ((head_Trim.f a0).bind fun t308 => ((sprref12_Trim.f kj4 a0).bind fun t309 => (if t308.toList = t309.toList then ((head_May.f kj4 l1).bind fun t310 => ((sprref12_May.f kj4 l1).bind fun t311 => (some (t310 == t311)))) else (some false)))) else (some false)))) else (some false))) = some r := H
              have A18 := Aside0.mk A180
              clear A180
              replace H := Option.bind_eq_some_iff.mp H
              obtain ⟨t305, A190, H⟩ := H
              replace H : (if (t304 == t305) = true then ((head_Lower.f a0).bind fun t306 => ((sprref12_Lower.f a0).bind fun t307 => (if t306.toList = t307.toList then ((head_Trim.f a0).bind fun t308 => ((sprref12_Trim.f kj4 a0).bind fun t309 => (if t308.toList = t309.toList then ((head_May.f kj4 l1).bind fun t310 => ((sprref12_May.f kj4 l1).bind fun t311 => (some (t310 == t311)))) else (some false)))) else (some false)))) else (some false)) = some r := H
              have A19 := Aside0.mk A190
              clear A190
              by_cases c20 : (t304 == t305) = true
              · rw [if_pos c20] at H
                have c20b0 : (t304 == t305) = true := c20
                (try (have c20b1 : decide (t304 = t305) = true := by simpa using c20))
                (try (have c20b2 : (t304 == t305) = true := by simpa using c20))
                clear c20
                replace H := Option.bind_eq_some_iff.mp H
                obtain ⟨t306, A210, H⟩ := H
                replace H : ((sprref12_Lower.f a0).bind fun t307 => (if t306.toList = t307.toList then ((head_Trim.f a0).bind fun t308 => ((sprref12_Trim.f kj4 a0).bind fun t309 => (if t308.toList = t309.toList then ((head_May.f kj4 l1).bind fun t310 => ((sprref12_May.f kj4 l1).bind fun t311 => (some (t310 == t311)))) else (some false)))) else (some false))) = some r := H
                have A21 := Aside0.mk A210
                clear A210
                replace H := Option.bind_eq_some_iff.mp H
                obtain ⟨t307, A220, H⟩ := H
                replace H : (if t306.toList = t307.toList then ((head_Trim.f a0).bind fun t308 => ((sprref12_Trim.f kj4 a0).bind fun t309 => (if t308.toList = t309.toList then ((head_May.f kj4 l1).bind fun t310 => ((sprref12_May.f kj4 l1).bind fun t311 => (some (t310 == t311)))) else (some false)))) else (some false)) = some r := H
                have A22 := Aside0.mk A220
                clear A220
                by_cases c23 : t306.toList = t307.toList
                · rw [if_pos c23] at H
                  have c23b0 : (t306.toList == t307.toList) = true := beq_iff_eq.mpr c23
                  have c23b1 : (t306.toList != t307.toList) = false := bne_eq_false_iff_eq.mpr c23
                  clear c23
                  replace H := Option.bind_eq_some_iff.mp H
                  obtain ⟨t308, A240, H⟩ := H
                  replace H : ((sprref12_Trim.f kj4 a0).bind fun t309 => (if t308.toList = t309.toList then ((head_May.f kj4 l1).bind fun t310 => ((sprref12_May.f kj4 l1).bind fun t311 => (some (t310 == t311)))) else (some false))) = some r := H
                  have A24 := Aside0.mk A240
                  clear A240
                  replace H := Option.bind_eq_some_iff.mp H
                  obtain ⟨t309, A250, H⟩ := H
                  replace H : (if t308.toList = t309.toList then ((head_May.f kj4 l1).bind fun t310 => ((sprref12_May.f kj4 l1).bind fun t311 => (some (t310 == t311)))) else (some false)) = some r := H
                  have A25 := Aside0.mk A250
                  clear A250
                  by_cases c26 : t308.toList = t309.toList
                  · rw [if_pos c26] at H
                    have c26b0 : (t308.toList == t309.toList) = true := beq_iff_eq.mpr c26
                    have c26b1 : (t308.toList != t309.toList) = false := bne_eq_false_iff_eq.mpr c26
                    clear c26
                    replace H := Option.bind_eq_some_iff.mp H
                    obtain ⟨t310, A270, H⟩ := H
                    replace H : ((sprref12_May.f kj4 l1).bind fun t311 => (some (t310 == t311))) = some r := H
                    have A27 := Aside0.mk A270
                    clear A270
                    replace H := Option.bind_eq_some_iff.mp H
                    obtain ⟨t311, A280, H⟩ := H
                    replace H : (some (t310 == t311)) = some r := H
                    have A28 := Aside0.mk A280
                    clear A280
                    obtain rfl := Option.some.inj H
                    go_wp2_with (first | ((with_reducible refine gate_callee (f := 9) rfl ?_); refine goesL_ (some 16) rfl rfl Tryd.func9 (by kernel_rfl) rfl #[] rfl (by (try simp only [List.map_toArray, List.map_cons, List.map_nil]); first | done | rfl | (simp only [List.length_drop, List.length_take]; rfl)) ?_; (with_reducible refine (sprlaw13_first.calls kj4  true _ A13.out).mono ?_); rintro e w29 ⟨rfl, hb⟩; refine ⟨_, rfl, ?_⟩; have n0_ := Aside0.mk (below_step (by repeat (first | (with_reducible first | exact HB.out | apply below_alloc | apply pw_below_drewN | apply below_drew1) | exact HB.out)) hb); clear HB; have HB := n0_; clear n0_; (try clear hb); (try clear hb2); (try clear hk); (try clear hi)) | (go_at_call 23; (with_reducible refine (head_Name.calls kj4 a0 t302 _ A15.out).mono ?_); rintro e w' ⟨rfl, ⟨nd, rfl⟩⟩) | (go_at_call 24; (with_reducible refine (sprref12_Name.calls kj4 a0 t303 _ A16.out).mono ?_); rintro e w' ⟨rfl, ⟨nd, rfl⟩⟩) | (go_at_call 25; (with_reducible refine (head_Value.calls kj4 a0 t304 _ A18.out).mono ?_); rintro e w30 ⟨rfl, hb⟩; have n0_ := Aside0.mk (below_step (by repeat (first | (with_reducible first | exact HB.out | apply below_alloc | apply pw_below_drewN | apply below_drew1) | exact HB.out)) hb); clear HB; have HB := n0_; clear n0_; (try clear hb); (try clear hb2); (try clear hk); (try clear hi)) | (go_at_call 26; (with_reducible refine (sprref12_Value.calls kj4 a0 t305 _ A19.out).mono ?_); rintro e w' ⟨rfl, ⟨nd, rfl⟩⟩) | (go_at_call 20; (with_reducible refine (head_Lower.calls a0 t306 _ A21.out).mono ?_); rintro e w31 ⟨rfl, hb⟩; have n0_ := Aside0.mk (below_step (by repeat (first | (with_reducible first | exact HB.out | apply below_alloc | apply pw_below_drewN | apply below_drew1) | exact HB.out)) hb); clear HB; have HB := n0_; clear n0_; (try clear hb); (try clear hb2); (try clear hk); (try clear hi)) | (go_at_call 27; (with_reducible refine (sprref12_Lower.calls a0 t307 _ A22.out).mono ?_); rintro e w32 ⟨rfl, hb⟩; have n0_ := Aside0.mk (below_step (by repeat (first | (with_reducible first | exact HB.out | apply below_alloc | apply pw_below_drewN | apply below_drew1) | exact HB.out)) hb); clear HB; have HB := n0_; clear n0_; (try clear hb); (try clear hb2); (try clear hk); (try clear hi)) | (go_at_call 22; (with_reducible refine (head_Trim.calls a0 t308 _ A24.out).mono ?_); rintro e w33 ⟨rfl, hb⟩; have n0_ := Aside0.mk (below_step (by repeat (first | (with_reducible first | exact HB.out | apply below_alloc | apply pw_below_drewN | apply below_drew1) | exact HB.out)) hb); clear HB; have HB := n0_; clear n0_; (try clear hb); (try clear hb2); (try clear hk); (try clear hi)) | (go_at_call 28; (with_reducible refine (sprref12_Trim.calls kj4 a0 t309 _ A25.out).mono ?_); rintro e w' ⟨rfl, ⟨nd, rfl⟩⟩) | (go_at_call 29; (with_reducible refine (head_May.calls kj4 _ _ l1 t310 _ ?side1 ?side2 A27.out).mono ?_); (case side1 => repeat (first | exact (Kd.C_below HR1.out (by repeat (first | (with_reducible first | exact HB.out | apply below_alloc | apply pw_below_drewN | apply below_drew1) | exact HB.out))) | (with_reducible refine Kd.C_alloc ?_ _) | (with_reducible refine Kd.C_drewN ?_ _) | (with_reducible refine Kd.C_drew ?_))); (case side2 => exact HC1.out); rintro e w34 ⟨rfl, hb⟩; have n0_ := Aside0.mk (below_step (by repeat (first | (with_reducible first | exact HB.out | apply below_alloc | apply pw_below_drewN | apply below_drew1) | exact HB.out)) hb); clear HB; have HB := n0_; clear n0_; (try clear hb); (try clear hb2); (try clear hk); (try clear hi)) | (go_at_call 30; (with_reducible refine (sprref12_May.calls kj4 _ _ l1 t311 _ ?side1 ?side2 A28.out).mono ?_); (case side1 => repeat (first | exact (Kd.C_below HR1.out HB.out) | (with_reducible refine Kd.C_alloc ?_ _) | (with_reducible refine Kd.C_drewN ?_ _) | (with_reducible refine Kd.C_drew ?_))); (case side2 => exact HC1.out); rintro e w' ⟨rfl, ⟨nd, rfl⟩⟩))
                    go_ret
                    exact ⟨by first | rfl | (simp [errW_none, errW_some] <;> rfl) | (simp [*, errW_none, errW_some] <;> rfl), by repeat (first | (with_reducible first | exact HB.out | apply below_alloc | apply pw_below_drewN | apply below_drew1) | exact HB.out)⟩
                  · rw [if_neg c26] at H
                    have c26b0 : (t308.toList == t309.toList) = false := beq_eq_false_iff_ne.mpr c26
                    have c26b1 : (t308.toList != t309.toList) = true := bne_iff_ne.mpr c26
                    exact absurd ((Option.some.inj H).trans hT.out) (by decide)
                · rw [if_neg c23] at H
                  have c23b0 : (t306.toList == t307.toList) = false := beq_eq_false_iff_ne.mpr c23
                  have c23b1 : (t306.toList != t307.toList) = true := bne_iff_ne.mpr c23
                  exact absurd ((Option.some.inj H).trans hT.out) (by decide)
              · rw [if_neg c20] at H
                have c20b0 : (t304 == t305) = false := by simpa using c20
                (try (have c20b1 : decide (t304 = t305) = false := by simpa using c20))
                (try (have c20b2 : (t304 == t305) = false := by simpa using c20))
                (try (have c20b3 : ¬ (t304 = t305) := by simpa using c20))
                clear c20
                exact absurd ((Option.some.inj H).trans hT.out) (by decide)
            · rw [if_neg c17] at H
              have c17b0 : (t302 == t303) = false := by simpa using c17
              (try (have c17b1 : decide (t302 = t303) = false := by simpa using c17))
              (try (have c17b2 : (t302 == t303) = false := by simpa using c17))
              (try (have c17b3 : ¬ (t302 = t303) := by simpa using c17))
              clear c17
              exact absurd ((Option.some.inj H).trans hT.out) (by decide)
          · replace c14 := Bool.eq_false_iff.mpr c14
            subst c14
            have H1 : (some false) = some r := by rw [if_neg (show ¬ (false = true) by decide)] at H; exact H
            clear H
            have H := H1
            clear H1
            exact absurd ((Option.some.inj H).trans hT.out) (by decide)
  · replace c4 := Bool.eq_false_iff.mpr c4
    subst c4
    have H1 : (some false) = some r := by rw [if_neg (show ¬ (false = true) by decide)] at H; exact H
    clear H
    have H := H1
    clear H1
    exact absurd ((Option.some.inj H).trans hT.out) (by decide)

/-! ### head_Drop: function 32 -/
set_option maxHeartbeats 8000000 in
set_option maxRecDepth 100000 in
theorem head_Drop.lit (x : S45) (nm : ByteArray) (B : Nat) (W : World) (b : Bool) (hc : W.cell? ⟨B, 0, none⟩ = some (.string nm))
    (hq : ∀ W, Calls Tryd.prog 48 #[.string x.f0, .string nm] W fun e w' => e = .returned (.bool b) ∧ Below W.heap.size W w') :
    Calls Tryd.prog 55 (#[.agg #[.string x.f0, .string x.f1]] ++ #[.pointer (some ⟨B, 0, none⟩)]) W fun e w' => e = .returned (.bool b) ∧ Below W.heap.size W w' := by
  have hu45 := Tryd.underlying45
  have hlt : B < W.heap.size := World.block_lt_of_cell? W _ hc
  have hne : ¬ B = W.heap.size := by omega
  have hne' : ¬ W.heap.size = B := by omega
  have hc2 : (W.alloc (Obj.cells #[Value.string x.f0, Value.string x.f1] 45)).cell? ⟨B, 0, none⟩ = some (.string nm) := Lib.cell?_alloc_some _ hc
  show Calls Tryd.prog 55 #[.agg #[.string x.f0, .string x.f1], .pointer (some ⟨B, 0, none⟩)] W _
  go_enter Tryd.func55, Tryd.ntmps55
  go_wp2_with (go_at_call 48; refine (hq _).mono ?_; rintro e w' ⟨rfl, hb⟩)
  go_ret
  exact ⟨rfl, ((Below.refl _ W).alloc (Nat.le_refl _) _).trans (hb.mono (by rw [World.size_alloc]; omega))⟩
set_option maxHeartbeats 8000000 in
set_option maxRecDepth 100000 in
theorem head_Drop.own (A : Option Addr) (c : Nat) (l : List S45) (nm : ByteArray) (w : World) (hC : Kd.C k45 w A l.length l) (hc : l.length ≤ c) (hl : l.length < 4398046511104) (q : S45 → Bool)
    (hq : ∀ x ∈ l, ∀ W, Calls Tryd.prog 48 #[.string x.f0, .string nm] W fun e w' => e = .returned (.bool (q x)) ∧ Below W.heap.size W w') :
    Calls Tryd.prog 32 #[.slice A l.length c, .string nm] w fun e w' => ∃ v, e = .returned v ∧ Kd.R k45 45 w' w.heap.size (fun _ => True) v (l.filter fun x => !q x) ∧ Below w.heap.size w w' := by
  obtain ⟨w1, hw1⟩ : ∃ w1, w1 = w.alloc (.cells #[.string nm] 9) := ⟨_, rfl⟩
  have hs1 : w1.heap.size = w.heap.size + 1 := by rw [hw1, World.size_alloc]
  have hb1 : Below w.heap.size w w1 := by rw [hw1]; exact (Below.refl _ w).alloc (Nat.le_refl _) _
  have hcl := slices_Clone.own A c l w1 (Kd.C_below hC hb1) hc hl
  have hcell : w1.cell? ⟨w.heap.size, 0, none⟩ = some (.string nm) := by
    rw [hw1]
    have hh : (w.alloc (Obj.cells #[Value.string nm] 9)).heap[w.heap.size]? = some (.cells #[Value.string nm] 9 (0, 0)) := by
      show (w.heap.push _)[w.heap.size]? = _
      simp
    rw [blk_cell hh]; rfl
  have hdel := fun (w' : World) (v1 : Value) (hB1 : Below w1.heap.size w1 w') (hR1 : Kd.R k45 45 w' w1.heap.size (fun _ => True) v1 l) =>
    slices_DeleteFunc.own 55 #[.pointer (some ⟨w.heap.size, 0, none⟩)] q (enters_of Tryd.func55 (by kernel_rfl) rfl) v1 l w' w1.heap.size hB1.size hR1 (fun x hx W hW =>
      head_Drop.lit x nm w.heap.size W (q x) (by rw [hW.cell (p := ⟨w.heap.size, 0, none⟩) (by show w.heap.size < _; omega), hB1.cell (p := ⟨w.heap.size, 0, none⟩) (by show w.heap.size < _; omega)]; exact hcell) (hq x hx))
  have HD := Aside0.mk hdel
  have HB := Aside0.mk hb1
  have HS := Aside0.mk hs1
  clear hdel hcell hC hq hb1 hs1
  go_enter Tryd.func32, Tryd.ntmps32
  go_wp2_with (first | (go_at_call 43; rw [← hw1]; refine hcl.mono ?_; rintro e w' ⟨v1, rfl, hR1, hB1⟩; have hdd := HD.out w' v1 hB1 hR1; have HB1 := Aside0.mk hB1; clear hR1 hB1 hcl) | (go_at_call 42; refine hdd.mono ?_; rintro e w'' ⟨v2, rfl, hR2, hB2⟩))
  go_ret
  exact ⟨_, rfl, Kd.R_lower hR2 (by have := HS.out; omega), HB.out.trans ((HB1.out.trans hB2).mono (by have := HS.out; omega))⟩
theorem head_is_same (a b : ByteArray) (ha : Own.okS a = true) (hb : Own.okS b = true) : head_is.f a b = some (Own.same a b) := by
  unfold Own.okS at ha hb
  unfold head_is.f head_Lower.f
  rw [if_pos (of_decide_eq_true ha), if_pos (of_decide_eq_true hb)]
  rfl
def head_Drop.f (l0 : List S45) (a1 : ByteArray) : Option (List S45) :=
  if l0.length < 4398046511104 ∧ Own.okS a1 = true ∧ (l0.all fun x => Own.okS x.f0) = true then some (l0.filter fun x => !Own.same x.f0 a1) else none
theorem head_Drop.calls (A0 : Option Addr) (c0 : Nat) (l0 : List S45) (a1 : ByteArray) (r : List S45) (w : World) (hr0 : Kd.C k45 w A0 l0.length l0) (hc0 : l0.length ≤ c0) (h : head_Drop.f l0 a1 = some r) :
    Calls Tryd.prog 32 #[.slice A0 l0.length c0, .string a1] w fun e w' => ∃ v0_ : Value, e = .returned v0_ ∧ Kd.R k45 45 w' w.heap.size (fun _ => True) v0_ r ∧ Below w.heap.size w w' := by
  unfold head_Drop.f at h
  split at h
  · rename_i h1
    obtain ⟨h1, h2, h3⟩ := h1
    obtain rfl := Option.some.inj h
    exact head_Drop.own A0 c0 l0 a1 w hr0 hc0 h1 (fun x => Own.same x.f0 a1) (fun x hx W => head_is.calls x.f0 a1 _ W (head_is_same _ _ (List.all_eq_true.1 h3 x hx) h2))
  · cases h


/-! ### head_Set: function 31 -/
def head_Set.f (l0 : List (S45)) (a1 : ByteArray) (a2 : ByteArray) : Option ((List (S45))) := (head_Drop.f l0 a1).bind fun t312 => (if t312.length < 4398046511104 then (some (t312 ++ [(⟨a1, a2⟩ : S45)])) else (none))
set_option maxHeartbeats 8000000 in
set_option maxRecDepth 100000 in
theorem head_Set.calls (A0 : Option Addr) (c0 : Nat) (l0 : List (S45)) (a1 : ByteArray) (a2 : ByteArray) (r : List (S45)) (w : World) (hr0 : Kd.C k45 w A0 l0.length l0) (hc0 : l0.length ≤ c0) (h : head_Set.f l0 a1 a2 = some r) :
    Calls Tryd.prog 31 #[.slice A0 l0.length c0, .string a1, .string a2] w fun e w' => ∃ v0_ : Value, e = .returned (v0_) ∧ Kd.R k45 45 w' w.heap.size (fun _ => True) v0_ r ∧ Below w.heap.size w w' := by
  have hu45 := Tryd.underlying45
  have HR0 := Aside0.mk hr0
  have HC0 := Aside0.mk hc0
  clear hr0 hc0
  have HB := Aside0.mk (Below.refl w.heap.size w)
  have H : ((head_Drop.f l0 a1).bind fun t312 => (if t312.length < 4398046511104 then (some (t312 ++ [(⟨a1, a2⟩ : S45)])) else (none))) = some r := h
  clear h
  replace H := Option.bind_eq_some_iff.mp H
  obtain ⟨t312, A40, H⟩ := H
  replace H : (if t312.length < 4398046511104 then (some (t312 ++ [(⟨a1, a2⟩ : S45)])) else (none)) = some r := H
  have A4 := Aside0.mk A40
  clear A40
  by_cases c5 : t312.length < 4398046511104
  · rw [if_pos c5] at H
    have LMc5 := Aside0.mk c5
    clear c5
    obtain ⟨y315, hy315⟩ : ∃ y_ : List (S45), y_ = (t312 ++ [(⟨a1, a2⟩ : S45)]) := ⟨_, rfl⟩
    replace H : (some y315) = some r := by first | (rw [hy315]; with_reducible exact H) | (have H2_ := (Option.bind_some _ _).symm.trans H; rw [hy315]; with_reducible exact H2_) | (have H2_ := (Option.bind_some _ _).symm.trans H; with_reducible exact H2_) | with_reducible exact H | (rw [hy315]; exact H) | exact H
    have Ny315 := Aside0.mk hy315
    clear hy315
    obtain rfl := Option.some.inj H
    go_enter Tryd.func31, Tryd.ntmps31
    go_wp2_with (first | ((with_reducible refine gate_callee (f := 32) rfl ?_); refine goesL_ (some 9) rfl rfl Tryd.func32 (by kernel_rfl) rfl #[.slice A0 l0.length c0, .string a1] rfl (by (try simp only [List.map_toArray, List.map_cons, List.map_nil]); first | done | rfl | (simp only [List.length_drop, List.length_take]; rfl)) ?_; (with_reducible refine (head_Drop.calls _ _ l0 a1 t312 _ ?side1 ?side2 A4.out).mono ?_); (case side1 => repeat (first | exact HR0.out | (with_reducible refine Kd.C_alloc ?_ _) | (with_reducible refine Kd.C_drewN ?_ _) | (with_reducible refine Kd.C_drew ?_))); (case side2 => exact HC0.out); rintro e w6 ⟨v313, rfl, ho0, hb⟩; refine ⟨_, rfl, ?_⟩; have n0_ := Aside0.mk (Kd.R_lower ho0 (below_size (by repeat (first | (with_reducible first | exact HB.out | apply below_alloc | apply pw_below_drewN | apply below_drew1) | exact HB.out)))); have n1_ := Aside0.mk (below_step (by repeat (first | (with_reducible first | exact HB.out | apply below_alloc | apply pw_below_drewN | apply below_drew1) | exact HB.out)) hb); clear HB; have HO314 := n0_; have HB := n1_; clear n0_ n1_; (try clear hb); (try clear hb2); (try clear hk); (try clear hi); (try clear ho0)) | ((with_reducible refine gate_builtin (b := .append) (xs := #[.tmp 9, .tmp 13]) rfl ?_); at_builtin; refine Kd.R_append k45 (w0 := w) w.heap.size rfl (.tmp 9) (.tmp 13) 23 45 (.agg #[(.string ⟨#[]⟩), (.string ⟨#[]⟩)]) 32 rfl Tryd.underlying23 info45 rfl (by decide) (by omega) v313 t312 (⟨a1, a2⟩ : S45) [.string a1, .string a2] (fun _ => True) (fun _ => False) rfl rfl ?aP (fun _ hk => hk.elim) ?aF ?aO ?aB ?aS ?aL ?_; (case aP => exact k45_mkM _ _ _ (⟨a1, a2⟩ : S45)); (case aB => exact (by repeat (first | (with_reducible first | exact HB.out | apply below_alloc | apply pw_below_drewN | apply below_drew1) | exact HB.out))); (case aF => exact (fun _ _ => trivial)); (case aO => exact (by (with_reducible repeat (first | apply Kd.R_alloc | apply Kd.R_drewN | apply Kd.R_drew)); exact HO314.out)); (case aS => exact (below_size (by repeat (first | (with_reducible first | exact HB.out | apply below_alloc | apply pw_below_drewN | apply below_drew1) | exact HB.out)))); (case aL => have := LMc5.out; omega); intro v316 w7 ho hb hg hat; rw [← Ny315.out] at ho; have n0_ := Aside0.mk (hb); have n1_ := Aside0.mk (ho); clear HB; clear HO314; have HB := n0_; have HO317 := n1_; clear n0_ n1_; clear ho hb hg hat))
    go_ret
    exact ⟨_, by first | rfl | (simp [errW_none, errW_some] <;> rfl) | (simp [*, errW_none, errW_some] <;> rfl), by (with_reducible repeat (first | apply Kd.R_alloc | apply Kd.R_drewN | apply Kd.R_drew)); exact HO317.out, by repeat (first | (with_reducible first | exact HB.out | apply below_alloc | apply pw_below_drewN | apply below_drew1) | exact HB.out)⟩
  · rw [if_neg c5] at H
    exact absurd H (by simp)

/-! ### strings_Join: function 56 -/
theorem spot_none {w : World} {a : Addr} {v : Value} (h : w.cell? a = some v) : a.spot = none := by
  unfold World.cell? at h
  split at h
  · split at h
    · cases h
    · rename_i hs
      cases hq : a.spot with
      | none => rfl
      | some x => rw [hq] at hs; simp at hs
  · cases h
def strings_Join.f (l0 : List ByteArray) (a1 : ByteArray) : Option (ByteArray) :=
  if l0.length ≤ 140737488355328 ∧ (Lib.join (l0.map (·.data.toList)) a1.data.toList).length ≤ 140737488355328 then some ⟨(Lib.join (l0.map (·.data.toList)) a1.data.toList).toArray⟩ else none
theorem strings_Join.calls (A0 : Option Addr) (c0 : Nat) (l0 : List ByteArray) (a1 : ByteArray) (r : ByteArray) (w : World) (hr0 : Kd.C Kd.string w A0 l0.length l0) (hc0 : l0.length ≤ c0) (h : strings_Join.f l0 a1 = some r) :
    Calls Tryd.prog 56 #[.slice A0 l0.length c0, .string a1] w fun e w' => e = .returned (.string r) ∧ Below w.heap.size w w' := by
  unfold strings_Join.f at h
  split at h
  · rename_i h1
    obtain ⟨h1, h2⟩ := h1
    obtain rfl := Option.some.inj h
    cases l0 with
    | nil => exact (Tryd.strings_Join_none A0 c0 a1 w).mono fun e w' ⟨he, hw⟩ => ⟨he, hw ▸ Below.refl _ _⟩
    | cons x t =>
      obtain ⟨ad, rfl, hc⟩ := hr0.2.2 (by simp)
      have hcell : ∀ (j : Nat) (y : ByteArray), (x :: t)[j]? = some y → w.cell? (ad.add j) = some (.string y) := by
        intro j y hy
        obtain ⟨cs, hl, hr, hcell⟩ := hc j y hy
        have e : cs = [.string y] := hr
        have := hcell 0 (.string y) (by rw [e]; rfl)
        simpa [Kd.string, Kd.scalar] using this
      have h0 := hcell 0 x rfl
      have hs : ad.spot = none := by have := spot_none h0; simpa [Addr.add] using this
      obtain ⟨bk, o, sp⟩ := ad
      obtain rfl : sp = none := hs
      refine Tryd.strings_Join bk o c0 (x :: t) a1 w (fun j y hy => ?_) (by have := World.block_lt_of_cell? w _ h0; simpa [Addr.add] using this) h1 hc0 h2
      rw [← hcell j y hy]
      congr 1
      unfold Addr.add
      split <;> simp_all
  · cases h


/-! ### head_One: function 33 -/
def head_One.f (k : Nat) (l0 : List (S45)) (a1 : ByteArray) : Option (ByteArray × Bool) := (head_All.f k l0 a1).bind fun t318 => ((strings_Join.f t318 (⟨#[44, 32]⟩ : ByteArray)).bind fun t321 => (some (t321, decide ((t318.length : Int) > 0))))
theorem head_One.mono : ∀ a0 a1 k, LeO (head_One.f k a0 a1) (head_One.f (k + 1) a0 a1) := by
  intro a0 a1 k
  unfold head_One.f
  repeat' first
      | (with_reducible exact head_All.mono _ _ _)
      | (with_reducible exact LeO.refl _)
      | (with_reducible exact LeO.none _)
      | (with_reducible refine LeO.ite ?_ ?_)
      | (with_reducible refine LeO.bind ?_ (fun _ => ?_))
      | exact head_All.mono _ _ _
      | exact LeO.none _
      | refine LeO.ite ?_ ?_
      | refine LeO.bind ?_ (fun _ => ?_)
set_option maxHeartbeats 8000000 in
set_option maxRecDepth 100000 in
theorem head_One.calls (k : Nat) (A0 : Option Addr) (c0 : Nat) (l0 : List (S45)) (a1 : ByteArray) (r1 : ByteArray) (r2 : Bool) (w : World) (hr0 : Kd.C k45 w A0 l0.length l0) (hc0 : l0.length ≤ c0) (h : head_One.f k l0 a1 = some (r1, r2)) :
    Calls Tryd.prog 33 #[.slice A0 l0.length c0, .string a1] w fun e w' => e = .returned (.tuple #[.string r1, .bool r2]) ∧ Below w.heap.size w w' := by
  have HR0 := Aside0.mk hr0
  have HC0 := Aside0.mk hc0
  clear hr0 hc0
  have HB := Aside0.mk (Below.refl w.heap.size w)
  have H : ((head_All.f k l0 a1).bind fun t318 => ((strings_Join.f t318 (⟨#[44, 32]⟩ : ByteArray)).bind fun t321 => (some (t321, decide ((t318.length : Int) > 0))))) = some (r1, r2) := h
  clear h
  replace H := Option.bind_eq_some_iff.mp H
  obtain ⟨t318, A30, H⟩ := H
  replace H : ((strings_Join.f t318 (⟨#[44, 32]⟩ : ByteArray)).bind fun t321 => (some (t321, decide ((t318.length : Int) > 0)))) = some (r1, r2) := H
  have A3 := Aside0.mk A30
  clear A30
  replace H := Option.bind_eq_some_iff.mp H
  obtain ⟨t321, A40, H⟩ := H
  replace H : (some (t321, decide ((t318.length : Int) > 0))) = some (r1, r2) := H
  have A4 := Aside0.mk A40
  clear A40
  simp only [Option.some.injEq, Prod.mk.injEq] at H
  obtain ⟨rfl, rfl⟩ := H
  go_enter Tryd.func33, Tryd.ntmps33
  go_wp2_with (first | ((with_reducible refine gate_callee (f := 19) rfl ?_); refine goesL_ (some 9) rfl rfl Tryd.func19 (by kernel_rfl) rfl #[.slice A0 l0.length c0, .string a1] rfl (by (try simp only [List.map_toArray, List.map_cons, List.map_nil]); first | done | rfl | (simp only [List.length_drop, List.length_take]; rfl)) ?_; (with_reducible refine (head_All.calls k _ _ l0 a1 t318 _ ?side1 ?side2 A3.out).mono ?_); (case side1 => repeat (first | exact HR0.out | (with_reducible refine Kd.C_alloc ?_ _) | (with_reducible refine Kd.C_drewN ?_ _) | (with_reducible refine Kd.C_drew ?_))); (case side2 => exact HC0.out); rintro e w5 ⟨v319, rfl, ho0, hb⟩; refine ⟨_, rfl, ?_⟩; have n0_ := Aside0.mk (Kd.R_lower ho0 (below_size (by repeat (first | (with_reducible first | exact HB.out | apply below_alloc | apply pw_below_drewN | apply below_drew1) | exact HB.out)))); have n1_ := Aside0.mk (below_step (by repeat (first | (with_reducible first | exact HB.out | apply below_alloc | apply pw_below_drewN | apply below_drew1) | exact HB.out)) hb); clear HB; have HO320 := n0_; have HB := n1_; clear n0_ n1_; (try clear hb); (try clear hb2); (try clear hk); (try clear hi); (try clear ho0); obtain ⟨Ao6, co6, eo6⟩ := Kd.R_slice HO320.out; subst eo6) | ((with_reducible refine gate_callee (f := 56) rfl ?_); refine goesL_ (some 11) rfl rfl Tryd.func56 (by kernel_rfl) rfl #[.slice Ao6 t318.length co6, .string (⟨#[44, 32]⟩ : ByteArray)] rfl (by (try simp only [List.map_toArray, List.map_cons, List.map_nil]); first | done | rfl | (simp only [List.length_drop, List.length_take]; rfl)) ?_; (with_reducible refine (strings_Join.calls _ _ t318 (⟨#[44, 32]⟩ : ByteArray) t321 _ ?side1 ?side2 A4.out).mono ?_); (case side1 => repeat (first | exact (Kd.R_reads' HO320.out).2.2 | (with_reducible refine Kd.C_alloc ?_ _) | (with_reducible refine Kd.C_drewN ?_ _) | (with_reducible refine Kd.C_drew ?_))); (case side2 => exact (Kd.R_reads' HO320.out).2.1); rintro e w7 ⟨rfl, hb⟩; refine ⟨_, rfl, ?_⟩; have n0_ := Aside0.mk (Kd.R_below (by (with_reducible repeat (first | apply Kd.R_alloc | apply Kd.R_drewN | apply Kd.R_drew)); exact HO320.out) hb); have n1_ := Aside0.mk (below_step (by repeat (first | (with_reducible first | exact HB.out | apply below_alloc | apply pw_below_drewN | apply below_drew1) | exact HB.out)) hb); clear HO320; clear HB; have HO320 := n0_; have HB := n1_; clear n0_ n1_; (try clear hb); (try clear hb2); (try clear hk); (try clear hi)))
  go_ret2
  exact ⟨by first | rfl | (simp [errW_none, errW_some] <;> rfl) | (simp [*, errW_none, errW_some] <;> rfl), by repeat (first | (with_reducible first | exact HB.out | apply below_alloc | apply pw_below_drewN | apply below_drew1) | exact HB.out)⟩

end Go.Proofs.YtmcjmmdejgoamaaDoor.Q
