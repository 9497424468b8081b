-- Written by a program of this session's (wip/xprint.py), out of the seat's translation.
import Derived.Test.YtlkbnbkabpodoaaDoorU0
import Derived.Test.YtlkbnbkabpodoaaDoorU2
import Derived.Test.YtlkbnbkabpodoaaDoorU3
namespace Go.Proofs.YtlkbnbkabpodoaaDoor.U
open Go.RowKit Go.Proofs.YtlkbnbkabpodoaaDoorW.PrintWords Go.Proofs.YtlkbnbkabpodoaaDoorW.PrintLast Go.Proofs.YtlkbnbkabpodoaaDoorW.PrintMore
attribute [local go_sem] max2_int min2_int max_two min_two max_three min_three max_four min_four   -- for this text's walks alone
set_option linter.unusedVariables false
set_option linter.unusedSimpArgs false

/-! ### sprlaw21_first: function 6 -/
theorem use_nil (w : World) : Kd.C k29 w none ([] : List S29).length [] := ⟨rfl, by decide, fun h => absurd h (by simp)⟩
theorem use_lit (w : World) (x : S29) (t : TypeId) : Kd.C k29 (w.alloc (.cells #[.string x.f0, .string x.f1] t)) (some ⟨w.heap.size, 0, none⟩) 1 [x] := by
  refine ⟨rfl, by decide, fun _ => ⟨_, rfl, fun i y hy => ?_⟩⟩
  have hi : i = 0 := by have := (List.getElem?_eq_some_iff.1 hy).1; simp at this; exact this
  subst hi
  obtain rfl : x = y := Option.some.inj hy
  refine ⟨[.string x.f0, .string x.f1], rfl, k29.K_of_M (k29_mkM (w.alloc (.cells #[.string x.f0, .string x.f1] t)) 0 (fun _ => True) x), fun j v hv => ?_⟩
  have hj : j = 0 ∨ j = 1 := by have := (List.getElem?_eq_some_iff.1 hv).1; simp at this; omega
  rcases hj with rfl | rfl
  · obtain rfl : Value.string x.f0 = v := Option.some.inj hv
    exact (blk_cell (blk_new w (.cells #[.string x.f0, .string x.f1] t)) 0).trans rfl
  · obtain rfl : Value.string x.f1 = v := Option.some.inj hv
    exact (blk_cell (blk_new w (.cells #[.string x.f0, .string x.f1] t)) 1).trans rfl
theorem sprlaw21_first.p1 (w : World) : Calls Tryd.prog 8 #[.bool false, .slice none 0 0, .slice none 0 0, .int .i64 5, .int .i64 6] w fun e w' => e = .returned (.int .i64 1) ∧ Below w.heap.size w w' :=
  use_Decide.calls 60 false none 0 [] none 0 [] 5 6 1 w (use_nil w) (Nat.le_refl _) (use_nil w) (Nat.le_refl _) (by kernel_rfl)
theorem sprlaw21_first.p2 (w : World) : Calls Tryd.prog 8 #[.bool false, .slice none 0 0, .slice none 0 0, .int .i64 5, .int .i64 5] w fun e w' => e = .returned (.int .i64 3) ∧ Below w.heap.size w w' :=
  use_Decide.calls 60 false none 0 [] none 0 [] 5 5 3 w (use_nil w) (Nat.le_refl _) (use_nil w) (Nat.le_refl _) (by kernel_rfl)
def sprlaw21_first.x : S29 := ⟨(⟨#[67, 97, 99, 104, 101, 45, 67, 111, 110, 116, 114, 111, 108]⟩ : ByteArray), (⟨#[109, 97, 120, 45, 115, 116, 97, 108, 101]⟩ : ByteArray)⟩
theorem sprlaw21_first.p3 (A : Option Addr) (w : World) (hr : Kd.C k29 w A 1 [sprlaw21_first.x]) : Calls Tryd.prog 8 #[.bool false, .slice A 1 1, .slice none 0 0, .int .i64 5, .int .i64 5] w fun e w' => e = .returned (.int .i64 2) ∧ Below w.heap.size w w' :=
  use_Decide.calls 60 false A 1 [sprlaw21_first.x] none 0 [] 5 5 2 w hr (Nat.le_refl _) (use_nil w) (Nat.le_refl _) (by kernel_rfl)
set_option maxHeartbeats 1000000 in
set_option maxRecDepth 100000 in
theorem sprlaw21_first.own (w : World) :
    Calls Tryd.prog 6 #[] w fun e w' => e = .returned (.bool true) ∧ Below w.heap.size w w' := by
  have hu29 := Tryd.underlying29
  have HL := Aside0.mk (use_lit w sprlaw21_first.x 29)
  have HB := Aside0.mk ((Below.refl w.heap.size w).alloc (Nat.le_refl _) (.cells #[.string sprlaw21_first.x.f0, .string sprlaw21_first.x.f1] 29))
  have T0 := Aside0.mk trivial
  go_enter Tryd.func6, Tryd.ntmps6
  go_wp2_with (first | (clear T0; go_at_call 8; (with_reducible refine (sprlaw21_first.p1 _).mono ?_); rintro e w1 ⟨rfl, hb⟩; have n0_ := Aside0.mk (Kd.C_below HL.out hb); have n1_ := Aside0.mk (HB.out.trans (hb.mono HB.out.size)); clear HL HB hb; have HL := n0_; have HB := n1_; clear n0_ n1_; have T1 := Aside0.mk trivial) | (clear T1; go_at_call 8; (with_reducible refine (sprlaw21_first.p2 _).mono ?_); rintro e w1 ⟨rfl, hb⟩; have n0_ := Aside0.mk (Kd.C_below HL.out hb); have n1_ := Aside0.mk (HB.out.trans (hb.mono HB.out.size)); clear HL HB hb; have HL := n0_; have HB := n1_; clear n0_ n1_; have T2 := Aside0.mk trivial) | (clear T2; go_at_call 8; (with_reducible refine (sprlaw21_first.p3 _ _ HL.out).mono ?_); rintro e w1 ⟨rfl, hb⟩; have n1_ := Aside0.mk (HB.out.trans (hb.mono HB.out.size)); clear HL HB hb; have HB := n1_; clear n1_))
  go_ret
  exact ⟨rfl, HB.out⟩
def sprlaw21_first.f (k : Nat) : Option Bool := some true
theorem sprlaw21_first.mono : ∀ k, LeO (sprlaw21_first.f k) (sprlaw21_first.f (k + 1)) := fun _ => LeO.refl _
theorem sprlaw21_first.calls (k : Nat) (r : Bool) (w : World) (h : sprlaw21_first.f k = some r) :
    Calls Tryd.prog 6 #[] w fun e w' => e = .returned (.bool r) ∧ Below w.heap.size w w' := by
  obtain rfl : true = r := Option.some.inj h
  exact sprlaw21_first.own w


/-! ### sprlaw13_Few: function 7 -/
def sprlaw13_Few.l0 : Nat → List (S29) → Int → Int → Option (Bool)
  | 0, _, _, _ => none
  | k + 1, x0, x3, x4 => if x4 < (x0.length : Int) then (if x4 < 80 then (if 0 ≤ x4 then (sprlaw13_Few.l0 k x0 (mn (wrap64 ((wrap64 (x3 + (mn (((rd_T29 x0 x4).f0).size : Int) 20000))) + (mn (((rd_T29 x0 x4).f1).size : Int) 20000))) 80000) (wrap64 (x4 + 1))) else (none)) else (if (x0.length : Int) ≤ 80 then (some (decide (x3 ≤ 20000))) else (some false))) else (if (x0.length : Int) ≤ 80 then (some (decide (x3 ≤ 20000))) else (some false))
def sprlaw13_Few.f (k : Nat) (l0 : List (S29)) : Option (Bool) := sprlaw13_Few.l0 k l0 0 0
theorem sprlaw13_Few.mono_l : ∀ k, (∀ y0 y1 y2, LeO (sprlaw13_Few.l0 k y0 y1 y2) (sprlaw13_Few.l0 (k + 1) y0 y1 y2))
  | 0 => fun _ _ _ r h => by simp [sprlaw13_Few.l0] at h
  | k + 1 => by
    have ih0 := sprlaw13_Few.mono_l k
    · intro y0 y1 y2
      unfold sprlaw13_Few.l0
      repeat' first
      | (with_reducible exact ih0 _ _ _)
      | (with_reducible exact LeO.refl _)
      | (with_reducible exact LeO.none _)
      | (with_reducible refine LeO.ite ?_ ?_)
      | (with_reducible refine LeO.bind ?_ (fun _ => ?_))
      | exact ih0 _ _ _
      | exact LeO.none _
      | refine LeO.ite ?_ ?_
      | refine LeO.bind ?_ (fun _ => ?_)
theorem sprlaw13_Few.mono : ∀ a0 k, LeO (sprlaw13_Few.f k a0) (sprlaw13_Few.f (k + 1) a0) := by
  intro a0 k
  have ih0 := sprlaw13_Few.mono_l k
  unfold sprlaw13_Few.f
  repeat' first
      | (with_reducible exact ih0 _ _ _)
      | (with_reducible exact LeO.refl _)
      | (with_reducible exact LeO.none _)
      | (with_reducible refine LeO.ite ?_ ?_)
      | (with_reducible refine LeO.bind ?_ (fun _ => ?_))
      | exact ih0 _ _ _
      | exact LeO.none _
      | refine LeO.ite ?_ ?_
      | refine LeO.bind ?_ (fun _ => ?_)
set_option maxHeartbeats 2000000 in
set_option maxRecDepth 100000 in
theorem sprlaw13_Few.calls (k : Nat) (A0 : Option Addr) (c0 : Nat) (l0 : List (S29)) (r : Bool) (w : World) (hr0 : Kd.C k29 w A0 l0.length l0) (hc0 : l0.length ≤ c0) (h : sprlaw13_Few.f k l0 = some r) :
    Calls Tryd.prog 7 #[.slice A0 l0.length c0] w fun e w' => e = .returned (.bool r) ∧ Below w.heap.size w w' := by
  have HR0 := Aside0.mk hr0
  have HC0 := Aside0.mk hc0
  clear hr0 hc0
  have HB := Aside0.mk (Below.refl w.heap.size w)
  have H : (sprlaw13_Few.l0 k l0 0 0) = some r := h
  clear h
  have H' := Aside0.mk H
  clear H
  go_enter Tryd.func7, Tryd.ntmps7
  go_wp2
  repeat (go_quiet (fail); try go_wp2)
  go_loopg [3, 4] k (fun kq v3 v4 w' => ∃ (x3_1 : Int) (x4_1 : Int), v3 = .int .i64 x3_1 ∧ v4 = .int .i64 x4_1 ∧ Aside0 (sprlaw13_Few.l0 kq l0 x3_1 x4_1 = some r) ∧ Aside0 (kq ≤ k) ∧ Aside0 (Below w.heap.size w w'))
  case atStart => exact ⟨(0), (0), (by first | rfl | (simp; done) | (simp [*]; done)), (by first | rfl | (simp; done) | (simp [*]; done)), H', ⟨Nat.le_refl _⟩, ⟨by repeat (first | (with_reducible first | exact HB.out | apply below_alloc | apply pw_below_drewN | apply below_drew1) | exact HB.out)⟩⟩
  case round =>
    clear H'
    obtain ⟨x3_1, x4_1, rfl, rfl, HA, HK1, HB⟩ := hrel
    cases gk with
    | zero => exact absurd HA.out (by simp [sprlaw13_Few.l0])
    | succ k1 =>
      have H := HA.out
      clear HA
      simp only [sprlaw13_Few.l0] at H
      by_cases c2 : x4_1 < (l0.length : Int)
      · rw [if_pos c2] at H
        have c2b0 : decide (x4_1 < (l0.length : Int)) = true := decide_eq_true c2
        clear c2
        by_cases c3 : x4_1 < 80
        · rw [if_pos c3] at H
          have c3b0 : decide (x4_1 < 80) = true := decide_eq_true c3
          clear c3
          by_cases c4 : 0 ≤ x4_1
          · rw [if_pos c4] at H
            have c4b0 : decide (0 ≤ x4_1) = true := decide_eq_true c4
            clear c4
            obtain ⟨ji5, hji5⟩ : ∃ j_ : Int, (mn (((rd_T29 l0 x4_1).f0).size : Int) 20000) = j_ := ⟨_, rfl⟩
            replace H : (sprlaw13_Few.l0 k1 l0 (mn (wrap64 ((wrap64 (x3_1 + (ji5))) + (mn (((rd_T29 l0 x4_1).f1).size : Int) 20000))) 80000) (wrap64 (x4_1 + 1))) = some r := by first | (rw [hji5] at H; exact H) | (simp only [hji5] at H ⊢; exact H)
            have hji5_ : (if 20000 < (((rd_T29 l0 x4_1).f0).size : Int) then 20000 else (((rd_T29 l0 x4_1).f0).size : Int)) = ji5 := hji5
            obtain ⟨ji6, hji6⟩ : ∃ j_ : Int, (mn (((rd_T29 l0 x4_1).f1).size : Int) 20000) = j_ := ⟨_, rfl⟩
            replace H : (sprlaw13_Few.l0 k1 l0 (mn (wrap64 ((wrap64 (x3_1 + (ji5))) + (ji6))) 80000) (wrap64 (x4_1 + 1))) = some r := by first | (rw [hji6] at H; exact H) | (simp only [hji6] at H ⊢; exact H)
            have hji6_ : (if 20000 < (((rd_T29 l0 x4_1).f1).size : Int) then 20000 else (((rd_T29 l0 x4_1).f1).size : Int)) = ji6 := hji6
            obtain ⟨ji7, hji7⟩ : ∃ j_ : Int, (mn (wrap64 ((wrap64 (x3_1 + (ji5))) + (ji6))) 80000) = j_ := ⟨_, rfl⟩
            replace H : (sprlaw13_Few.l0 k1 l0 ji7 (wrap64 (x4_1 + 1))) = some r := by first | (rw [hji7] at H; exact H) | (simp only [hji7] at H ⊢; exact H)
            have hji7_ : (if 80000 < (wrap64 ((wrap64 (x3_1 + (ji5))) + (ji6))) then 80000 else (wrap64 ((wrap64 (x3_1 + (ji5))) + (ji6)))) = ji7 := hji7
            have H' := Aside0.mk H
            clear H
            have p123 : 0 ≤ (x4_1 : Int) := of_decide_eq_true (by first | (with_reducible assumption) | assumption)
            have q123 : x4_1 < (l0.length : Int) := of_decide_eq_true (by first | (with_reducible assumption) | assumption)
            obtain ⟨ad123, e123, hx123_0, hx123_1⟩ := at_T29 HR0.out x4_1 p123 q123
            cases e123
            replace hx123_0 := (HB.out.cell (World.block_lt_of_cell? w _ hx123_0)).trans hx123_0
            replace hx123_1 := (HB.out.cell (World.block_lt_of_cell? w _ hx123_1)).trans hx123_1
            replace p123 := eq_true p123
            replace q123 := eq_true q123
            have p124 : 0 ≤ (x4_1 : Int) := of_decide_eq_true (by first | (with_reducible assumption) | assumption)
            have q124 : x4_1 < (l0.length : Int) := of_decide_eq_true (by first | (with_reducible assumption) | assumption)
            obtain ⟨ad124, e124, hx124_0, hx124_1⟩ := at_T29 HR0.out x4_1 p124 q124
            obtain rfl : ad123 = ad124 := (by injection e124)
            replace hx124_0 := (HB.out.cell (World.block_lt_of_cell? w _ hx124_0)).trans hx124_0
            replace hx124_1 := (HB.out.cell (World.block_lt_of_cell? w _ hx124_1)).trans hx124_1
            replace p124 := eq_true p124
            replace q124 := eq_true q124
            go_wp2
            repeat (go_quiet (fail); try go_wp2)
            go_roundg k1
            case measure => have := HK1.out; omega
            case rel => exact ⟨(ji7), (wrap64 (x4_1 + 1)), (by first | rfl | (simp; done) | (simp only [← hji7] <;> (first | rfl | simp)) | (simp [*]; done)), (by first | rfl | (simp; done) | (simp [*]; done)), H', ⟨by have := HK1.out; omega⟩, ⟨by repeat (first | (with_reducible first | exact HB.out | apply below_alloc | apply pw_below_drewN | apply below_drew1) | exact HB.out)⟩⟩
          · rw [if_neg c4] at H
            exact absurd H (by simp)
        · rw [if_neg c3] at H
          have c3b0 : decide (x4_1 < 80) = false := decide_eq_false c3
          clear c3
          by_cases c8 : (l0.length : Int) ≤ 80
          · rw [if_pos c8] at H
            have c8b0 : decide ((l0.length : Int) ≤ 80) = true := decide_eq_true c8
            have c8b1 : decide (l0.length ≤ 80) = true := decide_eq_true (by omega)
            clear c8
            obtain rfl := Option.some.inj H
            go_wp2
            repeat (go_quiet (fail); try go_wp2)
            go_ret
            exact ⟨by first | rfl | (simp [errW_none, errW_some] <;> rfl) | (simp [*, errW_none, errW_some] <;> rfl), by repeat (first | (with_reducible first | exact HB.out | apply below_alloc | apply pw_below_drewN | apply below_drew1) | exact HB.out)⟩
          · rw [if_neg c8] at H
            have c8b0 : decide ((l0.length : Int) ≤ 80) = false := decide_eq_false c8
            have c8b1 : decide (l0.length ≤ 80) = false := decide_eq_false (by omega)
            clear c8
            obtain rfl := Option.some.inj H
            go_wp2
            repeat (go_quiet (fail); try go_wp2)
            go_ret
            exact ⟨by first | rfl | (simp [errW_none, errW_some] <;> rfl) | (simp [*, errW_none, errW_some] <;> rfl), by repeat (first | (with_reducible first | exact HB.out | apply below_alloc | apply pw_below_drewN | apply below_drew1) | exact HB.out)⟩
      · rw [if_neg c2] at H
        have c2b0 : decide (x4_1 < (l0.length : Int)) = false := decide_eq_false c2
        clear c2
        by_cases c9 : (l0.length : Int) ≤ 80
        · rw [if_pos c9] at H
          have c9b0 : decide ((l0.length : Int) ≤ 80) = true := decide_eq_true c9
          have c9b1 : decide (l0.length ≤ 80) = true := decide_eq_true (by omega)
          clear c9
          obtain rfl := Option.some.inj H
          go_wp2
          repeat (go_quiet (fail); try go_wp2)
          go_ret
          exact ⟨by first | rfl | (simp [errW_none, errW_some] <;> rfl) | (simp [*, errW_none, errW_some] <;> rfl), by repeat (first | (with_reducible first | exact HB.out | apply below_alloc | apply pw_below_drewN | apply below_drew1) | exact HB.out)⟩
        · rw [if_neg c9] at H
          have c9b0 : decide ((l0.length : Int) ≤ 80) = false := decide_eq_false c9
          have c9b1 : decide (l0.length ≤ 80) = false := decide_eq_false (by omega)
          clear c9
          obtain rfl := Option.some.inj H
          go_wp2
          repeat (go_quiet (fail); try go_wp2)
          go_ret
          exact ⟨by first | rfl | (simp [errW_none, errW_some] <;> rfl) | (simp [*, errW_none, errW_some] <;> rfl), by repeat (first | (with_reducible first | exact HB.out | apply below_alloc | apply pw_below_drewN | apply below_drew1) | exact HB.out)⟩

/-! ### use_Failing: function 9 -/
set_option maxHeartbeats 4000000 in
set_option maxRecDepth 100000 in
theorem use_Failing.own (k : Nat) (sh : Bool) (A1 : Option Addr) (c1 : Nat) (l1 : List S29) (A2 : Option Addr) (c2 : Nat) (l2 : List S29) (old life : Int) (a s : Own.Ctl) (w : World) (hr1 : Kd.C k29 w A1 l1.length l1) (hc1 : l1.length ≤ c1) (hr2 : Kd.C k29 w A2 l2.length l2) (hc2 : l2.length ≤ c2) (ha : use_wish.R k l1 = some a) (hs : use_control.R k l2 = some s) :
    Calls Tryd.prog 9 #[.bool sh, .slice A1 l1.length c1, .slice A2 l2.length c2, .int .i64 old, .int .i64 life] w fun e w' => e = .returned (.bool (failB sh a s (subI old life))) ∧ Below w.heap.size w w' := by
  have hu35 := Tryd.underlying34
  have hu33 := Tryd.underlying32
  have HR1 := Aside0.mk hr1
  have HR2 := Aside0.mk hr2
  have HC1 := Aside0.mk hc1
  have HC2 := Aside0.mk hc2
  have HWA := Aside0.mk ha
  have HWS := Aside0.mk hs
  have HBF := Aside0.mk (Below.refl w.heap.size w)
  have HSA : Aside0 (some 21 = some a.cells.size) := ⟨rfl⟩
  have HSS : Aside0 (some 21 = some s.cells.size) := ⟨rfl⟩
  clear hr1 hr2 hc1 hc2 ha hs
  go_enter Tryd.func9, Tryd.ntmps9
  go_upto_region 3 with (first | (go_at_call 13; (with_reducible refine (bits_Sub.calls old life _ _ (Sub_is old life)).mono ?_); rintro e w1 ⟨rfl, hb⟩; have n0_ := Aside0.mk (HBF.out.trans (hb.mono HBF.out.size)); clear HBF hb; have HBF := n0_; clear n0_) | (go_at_call 19; (with_reducible refine (use_wish.own k A1 c1 l1 a _ (Kd.C_below HR1.out HBF.out) HC1.out HWA.out).mono ?_); rintro e w3 ⟨rfl, hb⟩; have n0_ := Aside0.mk (HBF.out.trans (hb.mono HBF.out.size)); clear HBF hb; have HBF := n0_; clear n0_) | (go_at_call 20; (with_reducible refine (use_control.own k A2 c2 l2 s _ (Kd.C_below HR2.out HBF.out) HC2.out HWS.out).mono ?_); rintro e w4 ⟨rfl, hb⟩; have n0_ := Aside0.mk (HBF.out.trans (hb.mono HBF.out.size)); clear HBF hb; have HBF := n0_; clear n0_) | ((with_reducible refine gate_store (t := 34) (p := 12) rfl ?_); refine wpList_store_row rfl 34 _ _ rfl w4.heap.size a.cells rfl rfl 34 Own.Ctl.zero.cells (blk_alloc (blk_new w4 _) _) (cc_info.trans HSA.out) rfl (by simp [Own.Ctl.cells, Value.oneCell']) ?_) | ((with_reducible refine gate_store (t := 34) (p := 13) rfl ?_); obtain ⟨wy, hwy⟩ : ∃ wy, wy = (w4.alloc (.cells #[.bool false, .bool false, .bool false, .bool false, .bool false, .bool false, .bool false, .bool false, .bool false, .bool false, .bool false, .bool false, .int .i64 0, .bool false, .int .i64 0, .bool false, .int .i64 0, .bool false, .int .i64 0, .bool false, .int .i64 0] 34)).alloc (.cells #[.bool false, .bool false, .bool false, .bool false, .bool false, .bool false, .bool false, .bool false, .bool false, .bool false, .bool false, .bool false, .int .i64 0, .bool false, .int .i64 0, .bool false, .int .i64 0, .bool false, .int .i64 0, .bool false, .int .i64 0] 34) := ⟨_, rfl⟩; have hby := (by rw [hwy]; exact (HBF.out.alloc HBF.out.size _).alloc (by rw [World.size_alloc]; have := HBF.out.size; omega) _ : Below w.heap.size w wy); have hy0 := (by rw [hwy]; exact blk_alloc (blk_new w4 _) _ : wy.heap[w4.heap.size]? = some (.cells Own.Ctl.zero.cells 34 (0, 0))); have hy1 := (by rw [hwy]; exact heap_alloc2_new w4 _ _ : wy.heap[w4.heap.size + 1]? = some (.cells Own.Ctl.zero.cells 34 (0, 0))); obtain ⟨wv, hwv⟩ : ∃ wv, wv = wy.setRow w4.heap.size a.cells := ⟨_, rfl⟩; have hv1 := (by rw [hwv]; exact (setRow_other _ _ _ _ (by omega)).trans hy1 : wv.heap[w4.heap.size + 1]? = some (.cells Own.Ctl.zero.cells 34 (0, 0))); have hv0 := (by rw [hwv]; exact setRow_heap _ _ _ _ _ _ hy0 : wv.heap[w4.heap.size]? = some (.cells a.cells 34 (0, 0))); rw [← hwy, ← hwv]; refine wpList_store_row rfl 34 _ _ rfl (w4.heap.size + 1) s.cells rfl rfl 34 Own.Ctl.zero.cells hv1 (cc_info.trans HSS.out) rfl (by simp [Own.Ctl.cells, Value.oneCell']) ?_; obtain ⟨wf, hwf⟩ : ∃ wf, wf = wv.setRow (w4.heap.size + 1) s.cells := ⟨_, rfl⟩; have HA := Aside0.mk (by rw [hwf]; exact (setRow_other _ _ _ _ (by omega)).trans hv0 : wf.heap[w4.heap.size]? = some (.cells a.cells 34 (0, 0))); have HS := Aside0.mk (by rw [hwf]; exact setRow_heap _ _ _ _ _ _ hv1 : wf.heap[w4.heap.size + 1]? = some (.cells s.cells 34 (0, 0))); have n0_ := Aside0.mk (by rw [hwf, hwv]; exact use_control.below (use_control.below hby HBF.out.size _) (by have := HBF.out.size; omega) _ : Below w.heap.size w wf); rw [← hwf]; clear hwf hwv hwy hy0 hy1 hv0 hv1 hby HBF; have HBF := n0_; clear n0_; generalize w4.heap.size = B0 at *))
  generalize hl : subI old life = late at *
  have HL := Aside0.mk hl
  clear hl
  cases qs : strictB sh s with
  | true =>
    have QS := Aside0.mk qs
    clear qs
    go_wp2_with (first | ((with_reducible refine gate_dst (N := 22) rfl ?_); refine wpList_load_row rfl 34 (.tmp 13) rfl (B0 + 1) rfl 34 s.cells (0, 0) _ HS.out hu35 rfl (cc_info.trans HSS.out) ?_) | (go_at_call 22; (with_reducible refine (use_strict.own sh s _).mono ?_); rintro e w5 ⟨rfl, hb⟩; have n0_ := Aside0.mk (HBF.out.trans (hb.mono HBF.out.size)); have n1_ := Aside0.mk (blk_below HA.out hb); have n2_ := Aside0.mk (blk_below HS.out hb); clear HBF HA HS hb; have HBF := n0_; have HA := n1_; have HS := n2_; clear n0_ n1_ n2_; rw [QS.out]; skip))
    go_ret
    exact ⟨by rw [HL.out, show failB sh a s late = false by unfold failB; simp [QS.out]]; rfl, HBF.out⟩
  | false =>
    have QS := Aside0.mk qs
    clear qs
    cases q1 : a.b1 with
    | true =>
      have Q1 := Aside0.mk q1
      clear q1
      go_wp2_with (first | ((with_reducible refine gate_dst (N := 22) rfl ?_); refine wpList_load_row rfl 34 (.tmp 13) rfl (B0 + 1) rfl 34 s.cells (0, 0) _ HS.out hu35 rfl (cc_info.trans HSS.out) ?_) | (go_at_call 22; (with_reducible refine (use_strict.own sh s _).mono ?_); rintro e w5 ⟨rfl, hb⟩; have n0_ := Aside0.mk (HBF.out.trans (hb.mono HBF.out.size)); have n1_ := Aside0.mk (blk_below HA.out hb); have n2_ := Aside0.mk (blk_below HS.out hb); clear HBF HA HS hb; have HBF := n0_; have HA := n1_; have HS := n2_; clear n0_ n1_ n2_; rw [QS.out]; have ca1 := (blk_cell HA.out 1).trans (show a.cells[1]? = some (.bool true) by show some (Value.bool a.b1) = _; rw [Q1.out])))
      go_ret
      exact ⟨by rw [HL.out, show failB sh a s late = false by unfold failB; simp [QS.out, Q1.out]]; rfl, HBF.out⟩
    | false =>
      have Q1 := Aside0.mk q1
      clear q1
      cases q2 : s.b1 with
      | true =>
        have Q2 := Aside0.mk q2
        clear q2
        go_wp2_with (first | ((with_reducible refine gate_dst (N := 22) rfl ?_); refine wpList_load_row rfl 34 (.tmp 13) rfl (B0 + 1) rfl 34 s.cells (0, 0) _ HS.out hu35 rfl (cc_info.trans HSS.out) ?_) | (go_at_call 22; (with_reducible refine (use_strict.own sh s _).mono ?_); rintro e w5 ⟨rfl, hb⟩; have n0_ := Aside0.mk (HBF.out.trans (hb.mono HBF.out.size)); have n1_ := Aside0.mk (blk_below HA.out hb); have n2_ := Aside0.mk (blk_below HS.out hb); clear HBF HA HS hb; have HBF := n0_; have HA := n1_; have HS := n2_; clear n0_ n1_ n2_; rw [QS.out]; have ca1 := (blk_cell HA.out 1).trans (show a.cells[1]? = some (.bool false) by show some (Value.bool a.b1) = _; rw [Q1.out]); have cs1 := (blk_cell HS.out 1).trans (show s.cells[1]? = some (.bool true) by show some (Value.bool s.b1) = _; rw [Q2.out])))
        go_ret
        exact ⟨by rw [HL.out, show failB sh a s late = false by unfold failB; simp [QS.out, Q1.out, Q2.out]]; rfl, HBF.out⟩
      | false =>
        have Q2 := Aside0.mk q2
        clear q2
        cases q4 : a.h4 with
        | false =>
          have Q4 := Aside0.mk q4
          clear q4
          cases q6 : s.h4 with
          | false =>
            have Q6 := Aside0.mk q6
            clear q6
            go_wp2_with (first | ((with_reducible refine gate_dst (N := 22) rfl ?_); refine wpList_load_row rfl 34 (.tmp 13) rfl (B0 + 1) rfl 34 s.cells (0, 0) _ HS.out hu35 rfl (cc_info.trans HSS.out) ?_) | (go_at_call 22; (with_reducible refine (use_strict.own sh s _).mono ?_); rintro e w5 ⟨rfl, hb⟩; have n0_ := Aside0.mk (HBF.out.trans (hb.mono HBF.out.size)); have n1_ := Aside0.mk (blk_below HA.out hb); have n2_ := Aside0.mk (blk_below HS.out hb); clear HBF HA HS hb; have HBF := n0_; have HA := n1_; have HS := n2_; clear n0_ n1_ n2_; rw [QS.out]; have ca1 := (blk_cell HA.out 1).trans (show a.cells[1]? = some (.bool false) by show some (Value.bool a.b1) = _; rw [Q1.out]); have cs1 := (blk_cell HS.out 1).trans (show s.cells[1]? = some (.bool false) by show some (Value.bool s.b1) = _; rw [Q2.out]); have ca19 := (blk_cell HA.out 19).trans (show a.cells[19]? = some (.bool false) by show some (Value.bool a.h4) = _; rw [Q4.out]); have cs19 := (blk_cell HS.out 19).trans (show s.cells[19]? = some (.bool false) by show some (Value.bool s.h4) = _; rw [Q6.out])))
            go_ret
            exact ⟨by rw [HL.out, show failB sh a s late = false by unfold failB; simp [QS.out, Q1.out, Q2.out, Q4.out, Q6.out]]; rfl, HBF.out⟩
          | true =>
            have Q6 := Aside0.mk q6
            clear q6
            by_cases q7 : s.n4 ≥ late
            · have d7 : decide (s.n4 ≥ late) = true := decide_eq_true q7
              have D7 := Aside0.mk d7
              clear q7
              go_wp2_with (first | ((with_reducible refine gate_dst (N := 22) rfl ?_); refine wpList_load_row rfl 34 (.tmp 13) rfl (B0 + 1) rfl 34 s.cells (0, 0) _ HS.out hu35 rfl (cc_info.trans HSS.out) ?_) | (go_at_call 22; (with_reducible refine (use_strict.own sh s _).mono ?_); rintro e w5 ⟨rfl, hb⟩; have n0_ := Aside0.mk (HBF.out.trans (hb.mono HBF.out.size)); have n1_ := Aside0.mk (blk_below HA.out hb); have n2_ := Aside0.mk (blk_below HS.out hb); clear HBF HA HS hb; have HBF := n0_; have HA := n1_; have HS := n2_; clear n0_ n1_ n2_; rw [QS.out]; have ca1 := (blk_cell HA.out 1).trans (show a.cells[1]? = some (.bool false) by show some (Value.bool a.b1) = _; rw [Q1.out]); have cs1 := (blk_cell HS.out 1).trans (show s.cells[1]? = some (.bool false) by show some (Value.bool s.b1) = _; rw [Q2.out]); have ca19 := (blk_cell HA.out 19).trans (show a.cells[19]? = some (.bool false) by show some (Value.bool a.h4) = _; rw [Q4.out]); have cs19 := (blk_cell HS.out 19).trans (show s.cells[19]? = some (.bool true) by show some (Value.bool s.h4) = _; rw [Q6.out]); have cs20 := (blk_cell HS.out 20).trans (show s.cells[20]? = some (.int .i64 s.n4) from rfl)))
              go_ret
              exact ⟨by rw [HL.out, show failB sh a s late = true by unfold failB; simp [QS.out, Q1.out, Q2.out, Q4.out, Q6.out, D7.out]]; rfl, HBF.out⟩
            · have d7 : decide (s.n4 ≥ late) = false := decide_eq_false q7
              have D7 := Aside0.mk d7
              clear q7
              go_wp2_with (first | ((with_reducible refine gate_dst (N := 22) rfl ?_); refine wpList_load_row rfl 34 (.tmp 13) rfl (B0 + 1) rfl 34 s.cells (0, 0) _ HS.out hu35 rfl (cc_info.trans HSS.out) ?_) | (go_at_call 22; (with_reducible refine (use_strict.own sh s _).mono ?_); rintro e w5 ⟨rfl, hb⟩; have n0_ := Aside0.mk (HBF.out.trans (hb.mono HBF.out.size)); have n1_ := Aside0.mk (blk_below HA.out hb); have n2_ := Aside0.mk (blk_below HS.out hb); clear HBF HA HS hb; have HBF := n0_; have HA := n1_; have HS := n2_; clear n0_ n1_ n2_; rw [QS.out]; have ca1 := (blk_cell HA.out 1).trans (show a.cells[1]? = some (.bool false) by show some (Value.bool a.b1) = _; rw [Q1.out]); have cs1 := (blk_cell HS.out 1).trans (show s.cells[1]? = some (.bool false) by show some (Value.bool s.b1) = _; rw [Q2.out]); have ca19 := (blk_cell HA.out 19).trans (show a.cells[19]? = some (.bool false) by show some (Value.bool a.h4) = _; rw [Q4.out]); have cs19 := (blk_cell HS.out 19).trans (show s.cells[19]? = some (.bool true) by show some (Value.bool s.h4) = _; rw [Q6.out]); have cs20 := (blk_cell HS.out 20).trans (show s.cells[20]? = some (.int .i64 s.n4) from rfl)))
              go_ret
              exact ⟨by rw [HL.out, show failB sh a s late = false by unfold failB; simp [QS.out, Q1.out, Q2.out, Q4.out, Q6.out, D7.out]]; rfl, HBF.out⟩
        | true =>
          have Q4 := Aside0.mk q4
          clear q4
          by_cases q5 : a.n4 ≥ late
          · have d5 : decide (a.n4 ≥ late) = true := decide_eq_true q5
            have D5 := Aside0.mk d5
            clear q5
            go_wp2_with (first | ((with_reducible refine gate_dst (N := 22) rfl ?_); refine wpList_load_row rfl 34 (.tmp 13) rfl (B0 + 1) rfl 34 s.cells (0, 0) _ HS.out hu35 rfl (cc_info.trans HSS.out) ?_) | (go_at_call 22; (with_reducible refine (use_strict.own sh s _).mono ?_); rintro e w5 ⟨rfl, hb⟩; have n0_ := Aside0.mk (HBF.out.trans (hb.mono HBF.out.size)); have n1_ := Aside0.mk (blk_below HA.out hb); have n2_ := Aside0.mk (blk_below HS.out hb); clear HBF HA HS hb; have HBF := n0_; have HA := n1_; have HS := n2_; clear n0_ n1_ n2_; rw [QS.out]; have ca1 := (blk_cell HA.out 1).trans (show a.cells[1]? = some (.bool false) by show some (Value.bool a.b1) = _; rw [Q1.out]); have cs1 := (blk_cell HS.out 1).trans (show s.cells[1]? = some (.bool false) by show some (Value.bool s.b1) = _; rw [Q2.out]); have ca19 := (blk_cell HA.out 19).trans (show a.cells[19]? = some (.bool true) by show some (Value.bool a.h4) = _; rw [Q4.out]); have ca20 := (blk_cell HA.out 20).trans (show a.cells[20]? = some (.int .i64 a.n4) from rfl)))
            go_ret
            exact ⟨by rw [HL.out, show failB sh a s late = true by unfold failB; simp [QS.out, Q1.out, Q2.out, Q4.out, D5.out]]; rfl, HBF.out⟩
          · have d5 : decide (a.n4 ≥ late) = false := decide_eq_false q5
            have D5 := Aside0.mk d5
            clear q5
            cases q6 : s.h4 with
            | false =>
              have Q6 := Aside0.mk q6
              clear q6
              go_wp2_with (first | ((with_reducible refine gate_dst (N := 22) rfl ?_); refine wpList_load_row rfl 34 (.tmp 13) rfl (B0 + 1) rfl 34 s.cells (0, 0) _ HS.out hu35 rfl (cc_info.trans HSS.out) ?_) | (go_at_call 22; (with_reducible refine (use_strict.own sh s _).mono ?_); rintro e w5 ⟨rfl, hb⟩; have n0_ := Aside0.mk (HBF.out.trans (hb.mono HBF.out.size)); have n1_ := Aside0.mk (blk_below HA.out hb); have n2_ := Aside0.mk (blk_below HS.out hb); clear HBF HA HS hb; have HBF := n0_; have HA := n1_; have HS := n2_; clear n0_ n1_ n2_; rw [QS.out]; have ca1 := (blk_cell HA.out 1).trans (show a.cells[1]? = some (.bool false) by show some (Value.bool a.b1) = _; rw [Q1.out]); have cs1 := (blk_cell HS.out 1).trans (show s.cells[1]? = some (.bool false) by show some (Value.bool s.b1) = _; rw [Q2.out]); have ca19 := (blk_cell HA.out 19).trans (show a.cells[19]? = some (.bool true) by show some (Value.bool a.h4) = _; rw [Q4.out]); have ca20 := (blk_cell HA.out 20).trans (show a.cells[20]? = some (.int .i64 a.n4) from rfl); have cs19 := (blk_cell HS.out 19).trans (show s.cells[19]? = some (.bool false) by show some (Value.bool s.h4) = _; rw [Q6.out])))
              go_ret
              exact ⟨by rw [HL.out, show failB sh a s late = false by unfold failB; simp [QS.out, Q1.out, Q2.out, Q4.out, D5.out, Q6.out]]; rfl, HBF.out⟩
            | true =>
              have Q6 := Aside0.mk q6
              clear q6
              by_cases q7 : s.n4 ≥ late
              · have d7 : decide (s.n4 ≥ late) = true := decide_eq_true q7
                have D7 := Aside0.mk d7
                clear q7
                go_wp2_with (first | ((with_reducible refine gate_dst (N := 22) rfl ?_); refine wpList_load_row rfl 34 (.tmp 13) rfl (B0 + 1) rfl 34 s.cells (0, 0) _ HS.out hu35 rfl (cc_info.trans HSS.out) ?_) | (go_at_call 22; (with_reducible refine (use_strict.own sh s _).mono ?_); rintro e w5 ⟨rfl, hb⟩; have n0_ := Aside0.mk (HBF.out.trans (hb.mono HBF.out.size)); have n1_ := Aside0.mk (blk_below HA.out hb); have n2_ := Aside0.mk (blk_below HS.out hb); clear HBF HA HS hb; have HBF := n0_; have HA := n1_; have HS := n2_; clear n0_ n1_ n2_; rw [QS.out]; have ca1 := (blk_cell HA.out 1).trans (show a.cells[1]? = some (.bool false) by show some (Value.bool a.b1) = _; rw [Q1.out]); have cs1 := (blk_cell HS.out 1).trans (show s.cells[1]? = some (.bool false) by show some (Value.bool s.b1) = _; rw [Q2.out]); have ca19 := (blk_cell HA.out 19).trans (show a.cells[19]? = some (.bool true) by show some (Value.bool a.h4) = _; rw [Q4.out]); have ca20 := (blk_cell HA.out 20).trans (show a.cells[20]? = some (.int .i64 a.n4) from rfl); have cs19 := (blk_cell HS.out 19).trans (show s.cells[19]? = some (.bool true) by show some (Value.bool s.h4) = _; rw [Q6.out]); have cs20 := (blk_cell HS.out 20).trans (show s.cells[20]? = some (.int .i64 s.n4) from rfl)))
                go_ret
                exact ⟨by rw [HL.out, show failB sh a s late = true by unfold failB; simp [QS.out, Q1.out, Q2.out, Q4.out, D5.out, Q6.out, D7.out]]; rfl, HBF.out⟩
              · have d7 : decide (s.n4 ≥ late) = false := decide_eq_false q7
                have D7 := Aside0.mk d7
                clear q7
                go_wp2_with (first | ((with_reducible refine gate_dst (N := 22) rfl ?_); refine wpList_load_row rfl 34 (.tmp 13) rfl (B0 + 1) rfl 34 s.cells (0, 0) _ HS.out hu35 rfl (cc_info.trans HSS.out) ?_) | (go_at_call 22; (with_reducible refine (use_strict.own sh s _).mono ?_); rintro e w5 ⟨rfl, hb⟩; have n0_ := Aside0.mk (HBF.out.trans (hb.mono HBF.out.size)); have n1_ := Aside0.mk (blk_below HA.out hb); have n2_ := Aside0.mk (blk_below HS.out hb); clear HBF HA HS hb; have HBF := n0_; have HA := n1_; have HS := n2_; clear n0_ n1_ n2_; rw [QS.out]; have ca1 := (blk_cell HA.out 1).trans (show a.cells[1]? = some (.bool false) by show some (Value.bool a.b1) = _; rw [Q1.out]); have cs1 := (blk_cell HS.out 1).trans (show s.cells[1]? = some (.bool false) by show some (Value.bool s.b1) = _; rw [Q2.out]); have ca19 := (blk_cell HA.out 19).trans (show a.cells[19]? = some (.bool true) by show some (Value.bool a.h4) = _; rw [Q4.out]); have ca20 := (blk_cell HA.out 20).trans (show a.cells[20]? = some (.int .i64 a.n4) from rfl); have cs19 := (blk_cell HS.out 19).trans (show s.cells[19]? = some (.bool true) by show some (Value.bool s.h4) = _; rw [Q6.out]); have cs20 := (blk_cell HS.out 20).trans (show s.cells[20]? = some (.int .i64 s.n4) from rfl)))
                go_ret
                exact ⟨by rw [HL.out, show failB sh a s late = false by unfold failB; simp [QS.out, Q1.out, Q2.out, Q4.out, D5.out, Q6.out, D7.out]]; rfl, HBF.out⟩
def use_Failing.f (k : Nat) (a0 : Bool) (l1 : List S29) (l2 : List S29) (a3 : Int) (a4 : Int) : Option (Bool) := (use_wish.R k l1).bind fun a => (use_control.R k l2).bind fun s => some (failB a0 a s (subI a3 a4))
theorem use_Failing.mono : ∀ a0 a1 a2 a3 a4 k, LeO (use_Failing.f k a0 a1 a2 a3 a4) (use_Failing.f (k + 1) a0 a1 a2 a3 a4) := by
  intro a0 a1 a2 a3 a4 k
  unfold use_Failing.f
  exact LeO.bind (use_wish.monoR k _) fun _ => LeO.bind (use_control.monoR k _) fun _ => LeO.refl _
theorem use_Failing.calls (k : Nat) (a0 : Bool) (A1 : Option Addr) (c1 : Nat) (l1 : List S29) (A2 : Option Addr) (c2 : Nat) (l2 : List S29) (a3 : Int) (a4 : Int) (r : Bool) (w : World) (hr1 : Kd.C k29 w A1 l1.length l1) (hc1 : l1.length ≤ c1) (hr2 : Kd.C k29 w A2 l2.length l2) (hc2 : l2.length ≤ c2) (h : use_Failing.f k a0 l1 l2 a3 a4 = some r) :
    Calls Tryd.prog 9 #[.bool a0, .slice A1 l1.length c1, .slice A2 l2.length c2, .int .i64 a3, .int .i64 a4] w fun e w' => e = .returned (.bool r) ∧ Below w.heap.size w w' := by
  unfold use_Failing.f at h
  obtain ⟨a, h1, h⟩ := Option.bind_eq_some_iff.1 h
  obtain ⟨s, h2, h⟩ := Option.bind_eq_some_iff.1 h
  obtain rfl := Option.some.inj h
  exact use_Failing.own k a0 A1 c1 l1 A2 c2 l2 a3 a4 a s w hr1 hc1 hr2 hc2 h1 h2


/-! ### sprref1_Clip: function 32 -/
def sprref1_Clip.f (a0 : Int) : Option (Int) := some (mn (mx a0 0) 2147483648)
set_option maxHeartbeats 2000000 in
set_option maxRecDepth 100000 in
theorem sprref1_Clip.calls (a0 : Int) (r : Int) (w : World) (h : sprref1_Clip.f a0 = some r) :
    Calls Tryd.prog 32 #[.int .i64 a0] w fun e w' => e = .returned (.int .i64 r) ∧ Below w.heap.size w w' := by
  have HB := Aside0.mk (Below.refl w.heap.size w)
  have H : (some (mn (mx a0 0) 2147483648)) = some r := h
  clear h
  obtain ⟨ji2, hji2⟩ : ∃ j_ : Int, (mx a0 0) = j_ := ⟨_, rfl⟩
  replace H : (some (mn (ji2) 2147483648)) = some r := by first | (rw [hji2] at H; exact H) | (simp only [hji2] at H ⊢; exact H)
  (try (have hji2l : 0 ≤ ji2 := by (rw [← hji2]; unfold mx; (repeat' split) <;> omega)))
  (try (have hji2m : 0 ≤ ji2 := by omega))
  have hji2_ : (if a0 < 0 then 0 else a0) = ji2 := hji2
  obtain ⟨ji3, hji3⟩ : ∃ j_ : Int, (mn (ji2) 2147483648) = j_ := ⟨_, rfl⟩
  replace H : (some ji3) = some r := by first | (rw [hji3] at H; exact H) | (simp only [hji3] at H ⊢; exact H)
  have hji3_ : (if 2147483648 < (ji2) then 2147483648 else (ji2)) = ji3 := hji3
  obtain rfl := Option.some.inj H
  go_enter Tryd.func32, Tryd.ntmps32
  go_wp2
  go_ret
  exact ⟨by first | rfl | (simp [errW_none, errW_some] <;> rfl) | (simp only [← hji2, ← hji3]; first | rfl | (simp [errW_none, errW_some] <;> rfl)) | (simp [*, errW_none, errW_some] <;> rfl), by repeat (first | (with_reducible first | exact HB.out | apply below_alloc | apply pw_below_drewN | apply below_drew1) | exact HB.out)⟩

/-! ### sprref1_Add: function 33 -/
def sprref1_Add.f (a0 : Int) (a1 : Int) : Option (Int) := (sprref1_Clip.f a0).bind fun t125 => ((sprref1_Clip.f a1).bind fun t126 => (some (mn (wrap64 (t125 + t126)) 2147483648)))
set_option maxHeartbeats 2000000 in
set_option maxRecDepth 100000 in
theorem sprref1_Add.calls (a0 : Int) (a1 : Int) (r : Int) (w : World) (h : sprref1_Add.f a0 a1 = some r) :
    Calls Tryd.prog 33 #[.int .i64 a0, .int .i64 a1] w fun e w' => e = .returned (.int .i64 r) ∧ Below w.heap.size w w' := by
  have HB := Aside0.mk (Below.refl w.heap.size w)
  have H : ((sprref1_Clip.f a0).bind fun t125 => ((sprref1_Clip.f a1).bind fun t126 => (some (mn (wrap64 (t125 + t126)) 2147483648)))) = some r := h
  clear h
  replace H := Option.bind_eq_some_iff.mp H
  obtain ⟨t125, A30, H⟩ := H
  replace H : ((sprref1_Clip.f a1).bind fun t126 => (some (mn (wrap64 (t125 + t126)) 2147483648))) = some r := H
  have A3 := Aside0.mk A30
  clear A30
  replace H := Option.bind_eq_some_iff.mp H
  obtain ⟨t126, A40, H⟩ := H
  replace H : (some (mn (wrap64 (t125 + t126)) 2147483648)) = some r := H
  have A4 := Aside0.mk A40
  clear A40
  obtain ⟨ji5, hji5⟩ : ∃ j_ : Int, (mn (wrap64 (t125 + t126)) 2147483648) = j_ := ⟨_, rfl⟩
  replace H : (some ji5) = some r := by first | (rw [hji5] at H; exact H) | (simp only [hji5] at H ⊢; exact H)
  (try rw [hji5] at A3)
  (try rw [hji5] at A4)
  (try (have hji5h : ji5 ≤ 2147483648 := by (rw [← hji5]; unfold mn; (repeat' split) <;> omega)))
  (try (have hji5g : ji5 ≤ 64 := by omega))
  have hji5_ : (if 2147483648 < (wrap64 (t125 + t126)) then 2147483648 else (wrap64 (t125 + t126))) = ji5 := hji5
  obtain rfl := Option.some.inj H
  go_enter Tryd.func33, Tryd.ntmps33
  go_wp2_with (first | ((with_reducible refine gate_callee (f := 32) rfl ?_); refine goesL_ (some 6) rfl rfl Tryd.func32 (by kernel_rfl) rfl #[.int .i64 a0] rfl (by (try simp only [List.map_toArray, List.map_cons, List.map_nil]); first | done | rfl | (simp only [List.length_drop, List.length_take]; rfl)) ?_; (with_reducible refine (sprref1_Clip.calls a0 t125 _ A3.out).mono ?_); rintro e w6 ⟨rfl, hb⟩; refine ⟨_, rfl, ?_⟩; have n0_ := Aside0.mk (below_step (by repeat (first | (with_reducible first | exact HB.out | apply below_alloc | apply pw_below_drewN | apply below_drew1) | exact HB.out)) hb); clear HB; have HB := n0_; clear n0_; (try clear hb); (try clear hb2); (try clear hk); (try clear hi)) | ((with_reducible refine gate_callee (f := 32) rfl ?_); refine goesL_ (some 8) rfl rfl Tryd.func32 (by kernel_rfl) rfl #[.int .i64 a1] rfl (by (try simp only [List.map_toArray, List.map_cons, List.map_nil]); first | done | rfl | (simp only [List.length_drop, List.length_take]; rfl)) ?_; (with_reducible refine (sprref1_Clip.calls a1 t126 _ A4.out).mono ?_); rintro e w7 ⟨rfl, hb⟩; refine ⟨_, rfl, ?_⟩; have n0_ := Aside0.mk (below_step (by repeat (first | (with_reducible first | exact HB.out | apply below_alloc | apply pw_below_drewN | apply below_drew1) | exact HB.out)) hb); clear HB; have HB := n0_; clear n0_; (try clear hb); (try clear hb2); (try clear hk); (try clear hi)))
  go_ret
  exact ⟨by first | rfl | (simp [errW_none, errW_some] <;> rfl) | (simp only [← hji5]; first | rfl | (simp [errW_none, errW_some] <;> rfl)) | (simp [*, errW_none, errW_some] <;> rfl), by repeat (first | (with_reducible first | exact HB.out | apply below_alloc | apply pw_below_drewN | apply below_drew1) | exact HB.out)⟩

/-! ### sprref1_Sub: function 35 -/
def sprref1_Sub.f (a0 : Int) (a1 : Int) : Option (Int) := (sprref1_Clip.f a0).bind fun t127 => ((sprref1_Clip.f a1).bind fun t128 => (some (mx (wrap64 (t127 - t128)) 0)))
set_option maxHeartbeats 2000000 in
set_option maxRecDepth 100000 in
theorem sprref1_Sub.calls (a0 : Int) (a1 : Int) (r : Int) (w : World) (h : sprref1_Sub.f a0 a1 = some r) :
    Calls Tryd.prog 35 #[.int .i64 a0, .int .i64 a1] w fun e w' => e = .returned (.int .i64 r) ∧ Below w.heap.size w w' := by
  have HB := Aside0.mk (Below.refl w.heap.size w)
  have H : ((sprref1_Clip.f a0).bind fun t127 => ((sprref1_Clip.f a1).bind fun t128 => (some (mx (wrap64 (t127 - t128)) 0)))) = some r := h
  clear h
  replace H := Option.bind_eq_some_iff.mp H
  obtain ⟨t127, A30, H⟩ := H
  replace H : ((sprref1_Clip.f a1).bind fun t128 => (some (mx (wrap64 (t127 - t128)) 0))) = some r := H
  have A3 := Aside0.mk A30
  clear A30
  replace H := Option.bind_eq_some_iff.mp H
  obtain ⟨t128, A40, H⟩ := H
  replace H : (some (mx (wrap64 (t127 - t128)) 0)) = some r := H
  have A4 := Aside0.mk A40
  clear A40
  obtain ⟨ji5, hji5⟩ : ∃ j_ : Int, (mx (wrap64 (t127 - t128)) 0) = j_ := ⟨_, rfl⟩
  replace H : (some ji5) = some r := by first | (rw [hji5] at H; exact H) | (simp only [hji5] at H ⊢; exact H)
  (try rw [hji5] at A3)
  (try rw [hji5] at A4)
  (try (have hji5l : 0 ≤ ji5 := by (rw [← hji5]; unfold mx; (repeat' split) <;> omega)))
  (try (have hji5m : 0 ≤ ji5 := by omega))
  have hji5_ : (if (wrap64 (t127 - t128)) < 0 then 0 else (wrap64 (t127 - t128))) = ji5 := hji5
  obtain rfl := Option.some.inj H
  go_enter Tryd.func35, Tryd.ntmps35
  go_wp2_with (first | ((with_reducible refine gate_callee (f := 32) rfl ?_); refine goesL_ (some 6) rfl rfl Tryd.func32 (by kernel_rfl) rfl #[.int .i64 a0] rfl (by (try simp only [List.map_toArray, List.map_cons, List.map_nil]); first | done | rfl | (simp only [List.length_drop, List.length_take]; rfl)) ?_; (with_reducible refine (sprref1_Clip.calls a0 t127 _ A3.out).mono ?_); rintro e w6 ⟨rfl, hb⟩; refine ⟨_, rfl, ?_⟩; have n0_ := Aside0.mk (below_step (by repeat (first | (with_reducible first | exact HB.out | apply below_alloc | apply pw_below_drewN | apply below_drew1) | exact HB.out)) hb); clear HB; have HB := n0_; clear n0_; (try clear hb); (try clear hb2); (try clear hk); (try clear hi)) | ((with_reducible refine gate_callee (f := 32) rfl ?_); refine goesL_ (some 8) rfl rfl Tryd.func32 (by kernel_rfl) rfl #[.int .i64 a1] rfl (by (try simp only [List.map_toArray, List.map_cons, List.map_nil]); first | done | rfl | (simp only [List.length_drop, List.length_take]; rfl)) ?_; (with_reducible refine (sprref1_Clip.calls a1 t128 _ A4.out).mono ?_); rintro e w7 ⟨rfl, hb⟩; refine ⟨_, rfl, ?_⟩; have n0_ := Aside0.mk (below_step (by repeat (first | (with_reducible first | exact HB.out | apply below_alloc | apply pw_below_drewN | apply below_drew1) | exact HB.out)) hb); clear HB; have HB := n0_; clear n0_; (try clear hb); (try clear hb2); (try clear hk); (try clear hi)))
  go_ret
  exact ⟨by first | rfl | (simp [errW_none, errW_some] <;> rfl) | (simp only [← hji5]; first | rfl | (simp [errW_none, errW_some] <;> rfl)) | (simp [*, errW_none, errW_some] <;> rfl), by repeat (first | (with_reducible first | exact HB.out | apply below_alloc | apply pw_below_drewN | apply below_drew1) | exact HB.out)⟩

/-! ### sprref12_Lower: function 45 -/
theorem sprref12_Lower.great_own (c : UInt8) (w : World) : Calls Tryd.prog 57 #[.int .u8 (c.toNat : Int)] w fun e w' => e = .returned (.bool (Own.greatb c)) ∧ w' = w := by
  go_enter Tryd.func57, Tryd.ntmps57
  go_wp2
  all_goals (go_ret; exact ⟨by unfold Own.greatb; simp [*] <;> omega, rfl⟩)
set_option maxHeartbeats 8000000 in
set_option maxRecDepth 100000 in
theorem sprref12_Lower.own (a0 : ByteArray) (w : World) (hs : a0.size ≤ 9223372036854775807) :
    Calls Tryd.prog 45 #[.string a0] w fun e w' => e = .returned (.string ⟨(a0.data.toList.map Own.lowb).toArray⟩) ∧ Below w.heap.size w w' := by
  have hconv := Lib.run_convert_string_bytes (P := Tryd.prog) w 9 58 5 a0 Tryd.underlying9 Tryd.underlying58 Tryd.underlying5
  have hb0 : Aside0 (Own.BytesAt (Lib.bytesWorld w 5 a0) w.heap.size (Own.lowTo a0 0)) := ⟨Own.bytesAt_conv w 5 a0⟩
  have hw0 : Aside0 (Below w.heap.size w (Lib.bytesWorld w 5 a0)) := ⟨Own.below_bytesWorld w 5 a0⟩
  go_enter Tryd.func45, Tryd.ntmps45
  go_wp2
  clear hconv
  go_loopw [4] (fun i wr => ∃ n : Nat, i = .int .i64 n ∧ n ≤ a0.size ∧ Aside0 (Own.BytesAt wr w.heap.size (Own.lowTo a0 n)) ∧ Aside0 (Below w.heap.size w wr)) (fun i _ => a0.size - (intOf i).toNat)
  case atStart => exact ⟨0, rfl, by omega, hb0, hw0⟩
  case round =>
    clear hb0 hw0
    obtain ⟨n, rfl, hn, hB, hW⟩ := hrel
    by_cases hlt : n < a0.size
    · have hat := hB.out.at n _ (Own.lowTo_at a0 n hlt)
      have hfr := hB.out.free n (by rw [Own.lowTo_length]; exact hlt)
      have q1 : decide ((n : Int) < (a0.size : Int)) = true := decide_eq_true (by omega)
      have p5 := eq_true (show (0 : Int) ≤ (n : Int) by omega)
      have q5 := eq_true (show (n : Int) < (a0.size : Int) by omega)
      have hz : 0 + (n : Int).toNat = n := by omega
      have hup := fun h1 h2 => hB.out.low hlt h1 h2
      have hkeep := fun h => hB.out.keep hlt h
      generalize a0.data.toList[n]'hlt = c at *
      have hup' := Aside0.mk hup
      have hkeep' := Aside0.mk hkeep
      clear hup hkeep hB
      by_cases hg : 65 ≤ (c.toNat : Int) ∧ (c.toNat : Int) ≤ 90
      · have hg' : Own.greatb c = true := by unfold Own.greatb; simp [hg]
        obtain ⟨h65, h90⟩ := hg
        have h1 : (c.toNat : Int) + 97 - 65 = (c.toNat : Int) + 32 := by omega
        rw [h1] at hup'
        go_wp2_with (go_at_call 57; refine (sprref12_Lower.great_own c _).mono ?_; rintro e w' ⟨rfl, rfl⟩; rw [hg'])
        go_roundw
        case measure => simp [intOf]; omega
        case rel => exact ⟨n + 1, rfl, by omega, ⟨hup'.out h65 h90⟩, ⟨hW.out.setCell (Nat.le_refl _) _⟩⟩
      · have hg' : Own.greatb c = false := by unfold Own.greatb; simpa using hg
        go_wp2_with (go_at_call 57; refine (sprref12_Lower.great_own c _).mono ?_; rintro e w' ⟨rfl, rfl⟩; rw [hg'])
        go_roundw
        case measure => simp [intOf]; omega
        case rel => exact ⟨n + 1, rfl, by omega, ⟨hkeep'.out hg⟩, hW⟩
    · have q1 : decide ((n : Int) < (a0.size : Int)) = false := decide_eq_false (by omega)
      obtain rfl : n = a0.size := by omega
      have hback := run_convert_bytes_back (P := Tryd.prog) wr 58 9 5 ⟨w.heap.size, 0, none⟩ (grownCap w a0.size 0 5) (Own.lowTo a0 a0.size) Tryd.underlying58 Tryd.underlying5 Tryd.underlying9 (fun j hj => hB.out.off j hj)
      rw [Own.lowTo_length, Own.lowTo_all] at hback
      go_wp2
      go_ret
      exact ⟨rfl, hW.out⟩
def sprref12_Lower.f (a0 : ByteArray) : Option (ByteArray) := if a0.size ≤ 9223372036854775807 then some (Own.low a0) else none
theorem sprref12_Lower.calls (a0 : ByteArray) (r : ByteArray) (w : World) (h : sprref12_Lower.f a0 = some r) :
    Calls Tryd.prog 45 #[.string a0] w fun e w' => e = .returned (.string r) ∧ Below w.heap.size w w' := by
  unfold sprref12_Lower.f at h
  by_cases h1 : a0.size ≤ 9223372036854775807
  · rw [if_pos h1] at h
    obtain rfl := Option.some.inj h
    exact sprref12_Lower.own a0 w h1
  · rw [if_neg h1] at h; cases h


/-! ### sprref12_All: function 44 -/
def sprref12_All.l0 : Nat → List (S29) → ByteArray → List ByteArray → Int → Option (List ByteArray)
  | 0, _, _, _, _ => none
  | k + 1, x0, x1, x5, x6 => if x6 < (x0.length : Int) then (if 0 ≤ x6 then ((sprref12_Lower.f ((rd_T29 x0 x6).f0)).bind fun t130 => ((sprref12_Lower.f x1).bind fun t131 => (if t130.toList = t131.toList then (if x5.length < 8796093022208 then (sprref12_All.l0 k x0 x1 (x5 ++ [(rd_T29 x0 x6).f1]) (wrap64 (x6 + 1))) else (none)) else (sprref12_All.l0 k x0 x1 x5 (wrap64 (x6 + 1)))))) else (none)) else (some x5)
def sprref12_All.f (k : Nat) (l0 : List (S29)) (a1 : ByteArray) : Option (List ByteArray) := sprref12_All.l0 k l0 a1 ([] : List ByteArray) 0
theorem sprref12_All.mono_l : ∀ k, (∀ y0 y1 y2 y3, LeO (sprref12_All.l0 k y0 y1 y2 y3) (sprref12_All.l0 (k + 1) y0 y1 y2 y3))
  | 0 => fun _ _ _ _ r h => by simp [sprref12_All.l0] at h
  | k + 1 => by
    have ih0 := sprref12_All.mono_l k
    · intro y0 y1 y2 y3
      unfold sprref12_All.l0
      repeat' first
      | (with_reducible exact ih0 _ _ _ _)
      | (with_reducible exact LeO.refl _)
      | (with_reducible exact LeO.none _)
      | (with_reducible refine LeO.ite ?_ ?_)
      | (with_reducible refine LeO.bind ?_ (fun _ => ?_))
      | exact ih0 _ _ _ _
      | exact LeO.none _
      | refine LeO.ite ?_ ?_
      | refine LeO.bind ?_ (fun _ => ?_)
theorem sprref12_All.mono : ∀ a0 a1 k, LeO (sprref12_All.f k a0 a1) (sprref12_All.f (k + 1) a0 a1) := by
  intro a0 a1 k
  have ih0 := sprref12_All.mono_l k
  unfold sprref12_All.f
  repeat' first
      | (with_reducible exact ih0 _ _ _ _)
      | (with_reducible exact LeO.refl _)
      | (with_reducible exact LeO.none _)
      | (with_reducible refine LeO.ite ?_ ?_)
      | (with_reducible refine LeO.bind ?_ (fun _ => ?_))
      | exact ih0 _ _ _ _
      | exact LeO.none _
      | refine LeO.ite ?_ ?_
      | refine LeO.bind ?_ (fun _ => ?_)
set_option maxHeartbeats 2000000 in
set_option maxRecDepth 100000 in
theorem sprref12_All.calls (k : Nat) (A0 : Option Addr) (c0 : Nat) (l0 : List (S29)) (a1 : ByteArray) (r : List ByteArray) (w : World) (hr0 : Kd.C k29 w A0 l0.length l0) (hc0 : l0.length ≤ c0) (h : sprref12_All.f k l0 a1 = some r) :
    Calls Tryd.prog 44 #[.slice A0 l0.length c0, .string a1] w fun e w' => ∃ v0_ : Value, e = .returned (v0_) ∧ Kd.R Kd.string 9 w' w.heap.size (fun _ => True) v0_ r ∧ Below w.heap.size w w' := by
  have HR0 := Aside0.mk hr0
  have HC0 := Aside0.mk hc0
  clear hr0 hc0
  have HB := Aside0.mk (Below.refl w.heap.size w)
  have H : (sprref12_All.l0 k l0 a1 ([] : List ByteArray) 0) = some r := h
  clear h
  have H' := Aside0.mk H
  clear H
  go_enter Tryd.func44, Tryd.ntmps44
  go_wp2
  go_loopg [5, 6] k (fun kq v5 v6 w' => ∃ (x5_1 : List ByteArray) (x6_1 : Int), v6 = .int .i64 x6_1 ∧ Aside0 (sprref12_All.l0 kq l0 a1 x5_1 x6_1 = some r) ∧ Aside0 (kq ≤ k) ∧ Aside0 (Kd.R Kd.string 9 w' w.heap.size (fun _ => True) v5 x5_1) ∧ Aside0 (Below w.heap.size w w'))
  case atStart => exact ⟨(([] : List ByteArray)), (0), (by first | rfl | (simp; done) | (simp [*]; done)), H', ⟨Nat.le_refl _⟩, ⟨by first | exact Kd.R_nil _ _ _ _ _ | exact Kd.N_nil _ _ _ _ _ | exact Kd.V_nil _ _ _ _ _ | exact Kd.Q_nil _ _ _ _ _ | exact Kd.S_nil _ _ _ _ _⟩, ⟨by repeat (first | (with_reducible first | exact HB.out | apply below_alloc | apply pw_below_drewN | apply below_drew1) | exact HB.out)⟩⟩
  case round =>
    clear H'
    try clear p2
    obtain ⟨x5_1, x6_1, rfl, HA, HK1, HO_5, HB⟩ := hrel
    cases gk with
    | zero => exact absurd HA.out (by simp [sprref12_All.l0])
    | succ k1 =>
      have H := HA.out
      clear HA
      simp only [sprref12_All.l0] at H
      by_cases c3 : x6_1 < (l0.length : Int)
      · rw [if_pos c3] at H
        have c3b0 : decide (x6_1 < (l0.length : Int)) = true := decide_eq_true c3
        clear c3
        by_cases c4 : 0 ≤ x6_1
        · rw [if_pos c4] at H
          have c4b0 : decide (0 ≤ x6_1) = true := decide_eq_true c4
          clear c4
          replace H := Option.bind_eq_some_iff.mp H
          obtain ⟨t130, A50, H⟩ := H
          replace H : ((sprref12_Lower.f a1).bind fun t131 => (if t130.toList = t131.toList then (if x5_1.length < 8796093022208 then (sprref12_All.l0 k1 l0 a1 (x5_1 ++ [(rd_T29 l0 x6_1).f1]) (wrap64 (x6_1 + 1))) else (none)) else (sprref12_All.l0 k1 l0 a1 x5_1 (wrap64 (x6_1 + 1))))) = some r := H
          have A5 := Aside0.mk A50
          clear A50
          replace H := Option.bind_eq_some_iff.mp H
          obtain ⟨t131, A60, H⟩ := H
          replace H : (if t130.toList = t131.toList then (if x5_1.length < 8796093022208 then (sprref12_All.l0 k1 l0 a1 (x5_1 ++ [(rd_T29 l0 x6_1).f1]) (wrap64 (x6_1 + 1))) else (none)) else (sprref12_All.l0 k1 l0 a1 x5_1 (wrap64 (x6_1 + 1)))) = some r := H
          have A6 := Aside0.mk A60
          clear A60
          by_cases c7 : t130.toList = t131.toList
          · rw [if_pos c7] at H
            have c7b0 : (t130.toList == t131.toList) = true := beq_iff_eq.mpr c7
            have c7b1 : (t130.toList != t131.toList) = false := bne_eq_false_iff_eq.mpr c7
            clear c7
            by_cases c8 : x5_1.length < 8796093022208
            · rw [if_pos c8] at H
              have LMc8 := Aside0.mk c8
              clear c8
              obtain ⟨y133, hy133⟩ : ∃ y_ : List ByteArray, y_ = (x5_1 ++ [(rd_T29 l0 x6_1).f1]) := ⟨_, rfl⟩
              replace H : (sprref12_All.l0 k1 l0 a1 y133 (wrap64 (x6_1 + 1))) = some r := by first | (rw [hy133]; with_reducible exact H) | (have H2_ := (Option.bind_some _ _).symm.trans H; rw [hy133]; with_reducible exact H2_) | (have H2_ := (Option.bind_some _ _).symm.trans H; with_reducible exact H2_) | with_reducible exact H | (rw [hy133]; exact H) | exact H
              have Ny133 := Aside0.mk hy133
              clear hy133
              have H' := Aside0.mk H
              clear H
              have p129 : 0 ≤ (x6_1 : Int) := of_decide_eq_true (by first | (with_reducible assumption) | assumption)
              have q129 : x6_1 < (l0.length : Int) := of_decide_eq_true (by first | (with_reducible assumption) | assumption)
              obtain ⟨ad129, e129, hx129_0, hx129_1⟩ := at_T29 HR0.out x6_1 p129 q129
              cases e129
              replace hx129_0 := (HB.out.cell (World.block_lt_of_cell? w _ hx129_0)).trans hx129_0
              replace hx129_1 := (HB.out.cell (World.block_lt_of_cell? w _ hx129_1)).trans hx129_1
              replace p129 := eq_true p129
              replace q129 := eq_true q129
              go_wp2_with (first | ((with_reducible refine gate_callee (f := 45) rfl ?_); refine goesL_ (some 18) rfl rfl Tryd.func45 (by kernel_rfl) rfl #[.string ((rd_T29 l0 x6_1).f0)] rfl (by (try simp only [List.map_toArray, List.map_cons, List.map_nil]); first | done | rfl | (simp only [List.length_drop, List.length_take]; rfl)) ?_; (with_reducible refine (sprref12_Lower.calls ((rd_T29 l0 x6_1).f0) t130 _ A5.out).mono ?_); rintro e w9 ⟨rfl, hb⟩; refine ⟨_, rfl, ?_⟩; have n0_ := Aside0.mk (Kd.R_below (by (with_reducible repeat (first | apply Kd.R_alloc | apply Kd.R_drewN | apply Kd.R_drew)); exact HO_5.out) hb); have n1_ := Aside0.mk (below_step (by repeat (first | (with_reducible first | exact HB.out | apply below_alloc | apply pw_below_drewN | apply below_drew1) | exact HB.out)) hb); clear HO_5; clear HB; have HO_5 := n0_; have HB := n1_; clear n0_ n1_; (try clear hb); (try clear hb2); (try clear hk); (try clear hi)) | ((with_reducible refine gate_callee (f := 45) rfl ?_); refine goesL_ (some 20) rfl rfl Tryd.func45 (by kernel_rfl) rfl #[.string a1] rfl (by (try simp only [List.map_toArray, List.map_cons, List.map_nil]); first | done | rfl | (simp only [List.length_drop, List.length_take]; rfl)) ?_; (with_reducible refine (sprref12_Lower.calls a1 t131 _ A6.out).mono ?_); rintro e w10 ⟨rfl, hb⟩; refine ⟨_, rfl, ?_⟩; have n0_ := Aside0.mk (Kd.R_below (by (with_reducible repeat (first | apply Kd.R_alloc | apply Kd.R_drewN | apply Kd.R_drew)); exact HO_5.out) hb); have n1_ := Aside0.mk (below_step (by repeat (first | (with_reducible first | exact HB.out | apply below_alloc | apply pw_below_drewN | apply below_drew1) | exact HB.out)) hb); clear HO_5; clear HB; have HO_5 := n0_; have HB := n1_; clear n0_ n1_; (try clear hb); (try clear hb2); (try clear hk); (try clear hi); have p132 : 0 ≤ (x6_1 : Int) := of_decide_eq_true (by first | (with_reducible assumption) | assumption); have q132 : x6_1 < (l0.length : Int) := of_decide_eq_true (by first | (with_reducible assumption) | assumption); obtain ⟨ad132, e132, hx132_0, hx132_1⟩ := at_T29 HR0.out x6_1 p132 q132; obtain rfl : ad129 = ad132 := (by injection e132); replace hx132_0 := (HB.out.cell (World.block_lt_of_cell? w _ hx132_0)).trans hx132_0; replace hx132_1 := (HB.out.cell (World.block_lt_of_cell? w _ hx132_1)).trans hx132_1; replace p132 := eq_true p132; replace q132 := eq_true q132) | ((with_reducible refine gate_builtin (b := .append) (xs := #[.tmp 22, .tmp 28]) rfl ?_); at_builtin; refine Kd.R_append Kd.string (w0 := w) w.heap.size rfl (.tmp 22) (.tmp 28) 36 9 (.string ⟨#[]⟩) 16 rfl Tryd.underlying36 info9 rfl (by decide) (by omega) u5 x5_1 ((rd_T29 l0 x6_1).f1) [.string ((rd_T29 l0 x6_1).f1)] (fun _ => True) (fun _ => False) rfl rfl ?aP (fun _ hk => hk.elim) ?aF ?aO ?aB ?aS ?aL ?_; (case aP => exact rfl); (case aB => exact (by repeat (first | (with_reducible first | exact HB.out | apply below_alloc | apply pw_below_drewN | apply below_drew1) | exact HB.out))); (case aF => exact (fun _ _ => trivial)); (case aO => exact (by (with_reducible repeat (first | apply Kd.R_alloc | apply Kd.R_drewN | apply Kd.R_drew)); exact HO_5.out)); (case aS => exact (below_size (by repeat (first | (with_reducible first | exact HB.out | apply below_alloc | apply pw_below_drewN | apply below_drew1) | exact HB.out)))); (case aL => have := LMc8.out; omega); intro v134 w11 ho hb hg hat; rw [← Ny133.out] at ho; have n0_ := Aside0.mk (hb); have n1_ := Aside0.mk (ho); clear HB; clear HO_5; have HB := n0_; have HO135 := n1_; clear n0_ n1_; clear ho hb hg hat))
              go_roundg k1
              case measure => have := HK1.out; omega
              case rel => exact ⟨(y133), (wrap64 (x6_1 + 1)), (by first | rfl | (simp; done) | (simp [*]; done)), H', ⟨by have := HK1.out; omega⟩, ⟨by (with_reducible repeat (first | apply Kd.R_alloc | apply Kd.R_drewN | apply Kd.R_drew)); exact HO135.out⟩, ⟨by repeat (first | (with_reducible first | exact HB.out | apply below_alloc | apply pw_below_drewN | apply below_drew1) | exact HB.out)⟩⟩
            · rw [if_neg c8] at H
              exact absurd H (by simp)
          · rw [if_neg c7] at H
            have c7b0 : (t130.toList == t131.toList) = false := beq_eq_false_iff_ne.mpr c7
            have c7b1 : (t130.toList != t131.toList) = true := bne_iff_ne.mpr c7
            have H' := Aside0.mk H
            clear H
            have p129 : 0 ≤ (x6_1 : Int) := of_decide_eq_true (by first | (with_reducible assumption) | assumption)
            have q129 : x6_1 < (l0.length : Int) := of_decide_eq_true (by first | (with_reducible assumption) | assumption)
            obtain ⟨ad129, e129, hx129_0, hx129_1⟩ := at_T29 HR0.out x6_1 p129 q129
            cases e129
            replace hx129_0 := (HB.out.cell (World.block_lt_of_cell? w _ hx129_0)).trans hx129_0
            replace hx129_1 := (HB.out.cell (World.block_lt_of_cell? w _ hx129_1)).trans hx129_1
            replace p129 := eq_true p129
            replace q129 := eq_true q129
            go_wp2_with (first | ((with_reducible refine gate_callee (f := 45) rfl ?_); refine goesL_ (some 18) rfl rfl Tryd.func45 (by kernel_rfl) rfl #[.string ((rd_T29 l0 x6_1).f0)] rfl (by (try simp only [List.map_toArray, List.map_cons, List.map_nil]); first | done | rfl | (simp only [List.length_drop, List.length_take]; rfl)) ?_; (with_reducible refine (sprref12_Lower.calls ((rd_T29 l0 x6_1).f0) t130 _ A5.out).mono ?_); rintro e w12 ⟨rfl, hb⟩; refine ⟨_, rfl, ?_⟩; have n0_ := Aside0.mk (Kd.R_below (by (with_reducible repeat (first | apply Kd.R_alloc | apply Kd.R_drewN | apply Kd.R_drew)); exact HO_5.out) hb); have n1_ := Aside0.mk (below_step (by repeat (first | (with_reducible first | exact HB.out | apply below_alloc | apply pw_below_drewN | apply below_drew1) | exact HB.out)) hb); clear HO_5; clear HB; have HO_5 := n0_; have HB := n1_; clear n0_ n1_; (try clear hb); (try clear hb2); (try clear hk); (try clear hi)) | ((with_reducible refine gate_callee (f := 45) rfl ?_); refine goesL_ (some 20) rfl rfl Tryd.func45 (by kernel_rfl) rfl #[.string a1] rfl (by (try simp only [List.map_toArray, List.map_cons, List.map_nil]); first | done | rfl | (simp only [List.length_drop, List.length_take]; rfl)) ?_; (with_reducible refine (sprref12_Lower.calls a1 t131 _ A6.out).mono ?_); rintro e w13 ⟨rfl, hb⟩; refine ⟨_, rfl, ?_⟩; have n0_ := Aside0.mk (Kd.R_below (by (with_reducible repeat (first | apply Kd.R_alloc | apply Kd.R_drewN | apply Kd.R_drew)); exact HO_5.out) hb); have n1_ := Aside0.mk (below_step (by repeat (first | (with_reducible first | exact HB.out | apply below_alloc | apply pw_below_drewN | apply below_drew1) | exact HB.out)) hb); clear HO_5; clear HB; have HO_5 := n0_; have HB := n1_; clear n0_ n1_; (try clear hb); (try clear hb2); (try clear hk); (try clear hi)))
            go_roundg k1
            case measure => have := HK1.out; omega
            case rel => exact ⟨(x5_1), (wrap64 (x6_1 + 1)), (by first | rfl | (simp; done) | (simp [*]; done)), H', ⟨by have := HK1.out; omega⟩, ⟨by (with_reducible repeat (first | apply Kd.R_alloc | apply Kd.R_drewN | apply Kd.R_drew)); exact HO_5.out⟩, ⟨by repeat (first | (with_reducible first | exact HB.out | apply below_alloc | apply pw_below_drewN | apply below_drew1) | exact HB.out)⟩⟩
        · rw [if_neg c4] at H
          exact absurd H (by simp)
      · rw [if_neg c3] at H
        have c3b0 : decide (x6_1 < (l0.length : Int)) = false := decide_eq_false c3
        clear c3
        obtain rfl := Option.some.inj H
        go_wp2
        go_ret
        exact ⟨_, by first | rfl | (simp [errW_none, errW_some] <;> rfl) | (simp [*, errW_none, errW_some] <;> rfl), by (with_reducible repeat (first | apply Kd.R_alloc | apply Kd.R_drewN | apply Kd.R_drew)); exact HO_5.out, by repeat (first | (with_reducible first | exact HB.out | apply below_alloc | apply pw_below_drewN | apply below_drew1) | exact HB.out)⟩

/-! ### sprref19_has: function 42 -/
def sprref19_has.f (k : Nat) (l0 : List (S29)) (a1 : ByteArray) : Option (Bool) := (sprref12_All.f k l0 a1).bind fun t136 => (some (decide ((t136.length : Int) > 0)))
theorem sprref19_has.mono : ∀ a0 a1 k, LeO (sprref19_has.f k a0 a1) (sprref19_has.f (k + 1) a0 a1) := by
  intro a0 a1 k
  unfold sprref19_has.f
  repeat' first
      | (with_reducible exact sprref12_All.mono _ _ _)
      | (with_reducible exact LeO.refl _)
      | (with_reducible exact LeO.none _)
      | (with_reducible refine LeO.ite ?_ ?_)
      | (with_reducible refine LeO.bind ?_ (fun _ => ?_))
      | exact sprref12_All.mono _ _ _
      | exact LeO.none _
      | refine LeO.ite ?_ ?_
      | refine LeO.bind ?_ (fun _ => ?_)
set_option maxHeartbeats 2000000 in
set_option maxRecDepth 100000 in
theorem sprref19_has.calls (k : Nat) (A0 : Option Addr) (c0 : Nat) (l0 : List (S29)) (a1 : ByteArray) (r : Bool) (w : World) (hr0 : Kd.C k29 w A0 l0.length l0) (hc0 : l0.length ≤ c0) (h : sprref19_has.f k l0 a1 = some r) :
    Calls Tryd.prog 42 #[.slice A0 l0.length c0, .string a1] w fun e w' => e = .returned (.bool r) ∧ Below w.heap.size w w' := by
  have HR0 := Aside0.mk hr0
  have HC0 := Aside0.mk hc0
  clear hr0 hc0
  have HB := Aside0.mk (Below.refl w.heap.size w)
  have H : ((sprref12_All.f k l0 a1).bind fun t136 => (some (decide ((t136.length : Int) > 0)))) = some r := h
  clear h
  replace H := Option.bind_eq_some_iff.mp H
  obtain ⟨t136, A30, H⟩ := H
  replace H : (some (decide ((t136.length : Int) > 0))) = some r := H
  have A3 := Aside0.mk A30
  clear A30
  obtain rfl := Option.some.inj H
  go_enter Tryd.func42, Tryd.ntmps42
  go_wp2_with (first | ((with_reducible refine gate_callee (f := 44) rfl ?_); refine goesL_ (some 7) rfl rfl Tryd.func44 (by kernel_rfl) rfl #[.slice A0 l0.length c0, .string a1] rfl (by (try simp only [List.map_toArray, List.map_cons, List.map_nil]); first | done | rfl | (simp only [List.length_drop, List.length_take]; rfl)) ?_; (with_reducible refine (sprref12_All.calls k _ _ l0 a1 t136 _ ?side1 ?side2 A3.out).mono ?_); (case side1 => repeat (first | exact HR0.out | (with_reducible refine Kd.C_alloc ?_ _) | (with_reducible refine Kd.C_drewN ?_ _) | (with_reducible refine Kd.C_drew ?_))); (case side2 => exact HC0.out); rintro e w4 ⟨v137, rfl, ho0, hb⟩; refine ⟨_, rfl, ?_⟩; have n0_ := Aside0.mk (Kd.R_lower ho0 (below_size (by repeat (first | (with_reducible first | exact HB.out | apply below_alloc | apply pw_below_drewN | apply below_drew1) | exact HB.out)))); have n1_ := Aside0.mk (below_step (by repeat (first | (with_reducible first | exact HB.out | apply below_alloc | apply pw_below_drewN | apply below_drew1) | exact HB.out)) hb); clear HB; have HO138 := n0_; have HB := n1_; clear n0_ n1_; (try clear hb); (try clear hb2); (try clear hk); (try clear hi); (try clear ho0); obtain ⟨Ao5, co5, eo5⟩ := Kd.R_slice HO138.out; subst eo5))
  go_ret
  exact ⟨by first | rfl | (simp [errW_none, errW_some] <;> rfl) | (simp [*, errW_none, errW_some] <;> rfl), by repeat (first | (with_reducible first | exact HB.out | apply below_alloc | apply pw_below_drewN | apply below_drew1) | exact HB.out)⟩

end Go.Proofs.YtlkbnbkabpodoaaDoor.U
