-- Written by a program of this session's (wip/xprint.py), out of the seat's translation.
import Derived.Test.YtkaegbamkdgjjaaDoorR0
import Derived.Test.YtkaegbamkdgjjaaDoorR2
import Derived.Test.YtkaegbamkdgjjaaDoorR3
import Derived.Test.YtkaegbamkdgjjaaDoorR5
import Derived.Test.YtkaegbamkdgjjaaDoorR7
namespace Go.Proofs.YtkaegbamkdgjjaaDoor.R
open Go.RowKit Go.Proofs.YtkaegbamkdgjjaaDoorW.PrintWords Go.Proofs.YtkaegbamkdgjjaaDoorW.PrintLast Go.Proofs.YtkaegbamkdgjjaaDoorW.PrintMore
attribute [local go_sem] max2_int min2_int max_two min_two max_three min_three max_four min_four   -- for this text's walks alone
set_option linter.unusedVariables false
set_option linter.unusedSimpArgs false

/-! ### sprlaw10_FormBack: function 4 -/
mutual
def sprlaw10_FormBack.j0 : Nat → ByteArray → List (S33) → Bool → Option (Bool)
  | 0, _, _, _ => none
  | k + 1, x0, x1, x22 => if x22 = true then ((sprlaw10_first.f k).bind fun t242 => (some t242)) else ((query_Print.f k x1).bind fun t243 => ((query_Parse.f k t243).bind fun bt244 => ((sprlaw10_utf.f k x1).bind fun t248 => (if t248 = true then (if (t243.size : Int) ≤ 4000 then (if (x1.length : Int) ≤ 256 then (if bt244.2 = 0 then ((sprref_Pairs.f k bt244.1 x1).bind fun t249 => (sprlaw10_FormBack.j1 k x0 (!t249))) else (sprlaw10_FormBack.j1 k x0 true)) else (sprlaw10_FormBack.j1 k x0 false)) else (sprlaw10_FormBack.j1 k x0 false)) else (sprlaw10_FormBack.j1 k x0 false)))))
def sprlaw10_FormBack.j1 : Nat → ByteArray → Bool → Option (Bool)
  | 0, _, _ => none
  | k + 1, x0, x52 => if x52 = true then (some false) else ((query_Parse.f k x0).bind fun bt250 => (if bt250.2 = 0 then ((query_Print.f k bt250.1).bind fun t255 => ((query_Parse.f k t255).bind fun bt256 => ((sprlaw10_first.f k).bind fun t260 => (if t260 = true then ((sprlaw10_utf.f k bt250.1).bind fun t261 => (if t261 = true then (if (t255.size : Int) > 4000 then (some true) else (if bt256.2 = 0 then ((sprref_Pairs.f k bt256.1 bt250.1).bind fun t262 => (some t262)) else (some false))) else (some false))) else (some false))))) else ((sprlaw10_first.f k).bind fun t254 => (if t254 = true then (some ((bt250.1.length : Int) == 0)) else (some false)))))
end
def sprlaw10_FormBack.f (k : Nat) (a0 : ByteArray) (l1 : List (S33)) : Option (Bool) := (sprlaw10_first.f k).bind fun t240 => (if t240 = true then (if (a0.size : Int) > 5000 then (sprlaw10_FormBack.j0 k a0 l1 true) else ((sprlaw10_few.f k l1).bind fun t241 => (sprlaw10_FormBack.j0 k a0 l1 (!t241)))) else (some false))
theorem sprlaw10_FormBack.mono_l : ∀ k, (∀ y0 y1 y2, LeO (sprlaw10_FormBack.j0 k y0 y1 y2) (sprlaw10_FormBack.j0 (k + 1) y0 y1 y2)) ∧ (∀ y0 y1, LeO (sprlaw10_FormBack.j1 k y0 y1) (sprlaw10_FormBack.j1 (k + 1) y0 y1))
  | 0 => ⟨fun _ _ _ r h => by simp [sprlaw10_FormBack.j0] at h, fun _ _ r h => by simp [sprlaw10_FormBack.j1] at h⟩
  | k + 1 => by
    obtain ⟨ih0, ih1⟩ := sprlaw10_FormBack.mono_l k
    refine ⟨?_, ?_⟩
    · intro y0 y1 y2
      unfold sprlaw10_FormBack.j0
      repeat' first
      | (with_reducible exact ih0 _ _ _)
      | (with_reducible exact ih1 _ _)
      | (with_reducible exact query_Parse.mono _ _)
      | (with_reducible exact query_Print.mono _ _)
      | (with_reducible exact sprlaw10_few.mono _ _)
      | (with_reducible exact sprlaw10_first.mono _)
      | (with_reducible exact sprlaw10_utf.mono _ _)
      | (with_reducible exact sprref_Pairs.mono _ _ _)
      | (with_reducible exact LeO.refl _)
      | (with_reducible exact LeO.none _)
      | (with_reducible refine LeO.ite ?_ ?_)
      | (with_reducible refine LeO.bind ?_ (fun _ => ?_))
      | exact ih0 _ _ _
      | exact ih1 _ _
      | exact query_Parse.mono _ _
      | exact query_Print.mono _ _
      | exact sprlaw10_few.mono _ _
      | exact sprlaw10_first.mono _
      | exact sprlaw10_utf.mono _ _
      | exact sprref_Pairs.mono _ _ _
      | exact LeO.none _
      | refine LeO.ite ?_ ?_
      | refine LeO.bind ?_ (fun _ => ?_)
    · intro y0 y1
      unfold sprlaw10_FormBack.j1
      repeat' first
      | (with_reducible exact ih0 _ _ _)
      | (with_reducible exact ih1 _ _)
      | (with_reducible exact query_Parse.mono _ _)
      | (with_reducible exact query_Print.mono _ _)
      | (with_reducible exact sprlaw10_few.mono _ _)
      | (with_reducible exact sprlaw10_first.mono _)
      | (with_reducible exact sprlaw10_utf.mono _ _)
      | (with_reducible exact sprref_Pairs.mono _ _ _)
      | (with_reducible exact LeO.refl _)
      | (with_reducible exact LeO.none _)
      | (with_reducible refine LeO.ite ?_ ?_)
      | (with_reducible refine LeO.bind ?_ (fun _ => ?_))
      | exact ih0 _ _ _
      | exact ih1 _ _
      | exact query_Parse.mono _ _
      | exact query_Print.mono _ _
      | exact sprlaw10_few.mono _ _
      | exact sprlaw10_first.mono _
      | exact sprlaw10_utf.mono _ _
      | exact sprref_Pairs.mono _ _ _
      | exact LeO.none _
      | refine LeO.ite ?_ ?_
      | refine LeO.bind ?_ (fun _ => ?_)
theorem sprlaw10_FormBack.mono : ∀ a0 a1 k, LeO (sprlaw10_FormBack.f k a0 a1) (sprlaw10_FormBack.f (k + 1) a0 a1) := by
  intro a0 a1 k
  obtain ⟨ih0, ih1⟩ := sprlaw10_FormBack.mono_l k
  unfold sprlaw10_FormBack.f
  repeat' first
      | (with_reducible exact ih0 _ _ _)
      | (with_reducible exact ih1 _ _)
      | (with_reducible exact query_Parse.mono _ _)
      | (with_reducible exact query_Print.mono _ _)
      | (with_reducible exact sprlaw10_few.mono _ _)
      | (with_reducible exact sprlaw10_first.mono _)
      | (with_reducible exact sprlaw10_utf.mono _ _)
      | (with_reducible exact sprref_Pairs.mono _ _ _)
      | (with_reducible exact LeO.refl _)
      | (with_reducible exact LeO.none _)
      | (with_reducible refine LeO.ite ?_ ?_)
      | (with_reducible refine LeO.bind ?_ (fun _ => ?_))
      | exact ih0 _ _ _
      | exact ih1 _ _
      | exact query_Parse.mono _ _
      | exact query_Print.mono _ _
      | exact sprlaw10_few.mono _ _
      | exact sprlaw10_first.mono _
      | exact sprlaw10_utf.mono _ _
      | exact sprref_Pairs.mono _ _ _
      | exact LeO.none _
      | refine LeO.ite ?_ ?_
      | refine LeO.bind ?_ (fun _ => ?_)
set_option maxHeartbeats 2000000 in
set_option maxRecDepth 100000 in
theorem sprlaw10_FormBack.calls (k : Nat) (a0 : ByteArray) (A1 : Option Addr) (c1 : Nat) (l1 : List (S33)) (r : Bool) (w : World) (hr1 : Kd.C k33 w A1 l1.length l1) (hc1 : l1.length ≤ c1) (h : sprlaw10_FormBack.f k a0 l1 = some r) (hT : Aside0 (r = true)) (hT0 : replW w) :
    Calls Tryd.prog 4 #[.string a0, .slice A1 l1.length c1] w fun e w' => e = .returned (.bool r) ∧ Below w.heap.size w w' := by
  have HT0 := Aside0.mk hT0
  clear hT0
  have HR1 := Aside0.mk hr1
  have HC1 := Aside0.mk hc1
  clear hr1 hc1
  have HB := Aside0.mk (Below.refl w.heap.size w)
  have H : ((sprlaw10_first.f k).bind fun t240 => (if t240 = true then (if (a0.size : Int) > 5000 then (sprlaw10_FormBack.j0 k a0 l1 true) else ((sprlaw10_few.f k l1).bind fun t241 => (sprlaw10_FormBack.j0 k a0 l1 (!t241)))) else (some false))) = some r := h
  clear h
  replace H := Option.bind_eq_some_iff.mp H
  obtain ⟨t240, A30, H⟩ := H
  replace H : (if t240 = true then (if (a0.size : Int) > 5000 then (sprlaw10_FormBack.j0 k a0 l1 true) else ((sprlaw10_few.f k l1).bind fun t241 => (sprlaw10_FormBack.j0 k a0 l1 (!t241)))) else (some false)) = some r := H
  have A3 := Aside0.mk A30
  clear A30
  by_cases c4 : t240 = true
  · subst c4
    have H1 : (if (a0.size : Int) > 5000 then (sprlaw10_FormBack.j0 k a0 l1 true) else ((sprlaw10_few.f k l1).bind fun t241 => (sprlaw10_FormBack.j0 k a0 l1 (!t241)))) = some r := by rw [if_pos rfl] at H; exact H
    clear H
    have H := H1
    clear H1
    have HC5 := Aside0.mk H
    clear H
    go_enter Tryd.func4, Tryd.ntmps4
    go_upto_region 3 with (first | ((with_reducible refine gate_callee (f := 7) rfl ?_); refine goesL_ (some 13) rfl rfl Tryd.func7 (by kernel_rfl) rfl #[] rfl (by (try simp only [List.map_toArray, List.map_cons, List.map_nil]); first | done | rfl | (simp only [List.length_drop, List.length_take]; rfl)) ?_; (with_reducible refine (sprlaw10_first.calls k  true _ A3.out (tab_below HT0.out (by repeat (first | (with_reducible first | exact HB.out | apply below_alloc | apply pw_below_drewN | apply below_drew1) | exact HB.out)))).mono ?_); rintro e w6 ⟨rfl, hb⟩; refine ⟨_, rfl, ?_⟩; have n0_ := Aside0.mk (below_step (by repeat (first | (with_reducible first | exact HB.out | apply below_alloc | apply pw_below_drewN | apply below_drew1) | exact HB.out)) hb); clear HB; have HB := n0_; clear n0_; (try clear hb); (try clear hb2); (try clear hk); (try clear hi)))
    (try simp only [Act.put, List.setIfInBounds_toArray, List.set_cons_zero, List.set_cons_succ])
    go_cut [22] (fun v22 wc => ∃ (kq : Nat) (x22_4 : Bool), v22 = .bool x22_4 ∧ Aside0 (sprlaw10_FormBack.j0 kq a0 l1 x22_4 = some r) ∧ Aside0 (kq ≤ k) ∧ Aside0 (Below w.heap.size w wc))
    case first =>
      have H := HC5.out
      clear HC5
      by_cases c7 : (a0.size : Int) > 5000
      · rw [if_pos c7] at H
        have c7b0 : decide (5000 < (a0.size : Int)) = true := decide_eq_true c7
        have c7b1 : decide (5000 < a0.size) = true := decide_eq_true (by omega)
        clear c7
        (first | rw [c7b0] | (simp only [i64_w, i32_w]; rw [c7b0]) | skip)
        have H' := Aside0.mk H
        clear H
        go_wp2
        go_meet
        case rel => exact ⟨_, (true), (by first | rfl | (simp; done) | (simp [*]; done)), H', ⟨by first | omega | exact Nat.le_refl _⟩, ⟨by repeat (first | (with_reducible first | exact HB.out | apply below_alloc | apply pw_below_drewN | apply below_drew1) | exact HB.out)⟩⟩
      · rw [if_neg c7] at H
        have c7b0 : decide (5000 < (a0.size : Int)) = false := decide_eq_false c7
        have c7b1 : decide (5000 < a0.size) = false := decide_eq_false (by omega)
        clear c7
        (first | rw [c7b0] | (simp only [i64_w, i32_w]; rw [c7b0]) | skip)
        replace H := Option.bind_eq_some_iff.mp H
        obtain ⟨t241, A80, H⟩ := H
        replace H : (sprlaw10_FormBack.j0 k a0 l1 (!t241)) = some r := H
        have A8 := Aside0.mk A80
        clear A80
        have H' := Aside0.mk H
        clear H
        go_wp2_with (first | (go_at_call 10; (with_reducible refine (sprlaw10_few.calls k _ _ l1 t241 _ ?side1 ?side2 A8.out).mono ?_); (case side1 => repeat (first | exact (Kd.C_below HR1.out HB.out) | (with_reducible refine Kd.C_alloc ?_ _) | (with_reducible refine Kd.C_drewN ?_ _) | (with_reducible refine Kd.C_drew ?_))); (case side2 => exact HC1.out); rintro e w9 ⟨rfl, hb⟩; have n0_ := Aside0.mk (below_step (by repeat (first | (with_reducible first | exact HB.out | apply below_alloc | apply pw_below_drewN | apply below_drew1) | exact HB.out)) hb); clear HB; have HB := n0_; clear n0_; (try clear hb); (try clear hb2); (try clear hk); (try clear hi)))
        go_meet
        case rel => exact ⟨_, (!t241), (by first | rfl | (simp; done) | (simp [*]; done)), H', ⟨by first | omega | exact Nat.le_refl _⟩, ⟨by repeat (first | (with_reducible first | exact HB.out | apply below_alloc | apply pw_below_drewN | apply below_drew1) | exact HB.out)⟩⟩
    case rest =>
      clear HC5
      try clear c1
      try clear p2
      try clear c4
      try clear c7
      try clear c7b0
      try clear c7b1
      obtain ⟨kq, x22_4, rfl, HA, HJ4, HB⟩ := hcut
      cases kq with
      | zero => exact absurd HA.out (by simp [sprlaw10_FormBack.j0])
      | succ kj4 =>
        have H := HA.out
        clear HA
        simp only [sprlaw10_FormBack.j0] at H
        by_cases c10 : x22_4 = true
        · subst c10
          have H1 : ((sprlaw10_first.f kj4).bind fun t242 => (some t242)) = some r := by rw [if_pos rfl] at H; exact H
          clear H
          have H := H1
          clear H1
          replace H := Option.bind_eq_some_iff.mp H
          obtain ⟨t242, A110, H⟩ := H
          replace H : (some t242) = some r := H
          have A11 := Aside0.mk A110
          clear A110
          obtain rfl := Option.some.inj H
          go_wp2_with (first | ((with_reducible refine gate_callee (f := 7) rfl ?_); refine goesL_ (some 23) rfl rfl Tryd.func7 (by kernel_rfl) rfl #[] rfl (by (try simp only [List.map_toArray, List.map_cons, List.map_nil]); first | done | rfl | (simp only [List.length_drop, List.length_take]; rfl)) ?_; (with_reducible refine (sprlaw10_first.calls kj4  t242 _ A11.out (tab_below HT0.out (by repeat (first | (with_reducible first | exact HB.out | apply below_alloc | apply pw_below_drewN | apply below_drew1) | exact HB.out)))).mono ?_); rintro e w12 ⟨rfl, hb⟩; refine ⟨_, rfl, ?_⟩; have n0_ := Aside0.mk (below_step (by repeat (first | (with_reducible first | exact HB.out | apply below_alloc | apply pw_below_drewN | apply below_drew1) | exact HB.out)) hb); clear HB; have HB := n0_; clear n0_; (try clear hb); (try clear hb2); (try clear hk); (try clear hi)))
          go_ret
          exact ⟨by first | rfl | (simp [errW_none, errW_some] <;> rfl) | (simp [*, errW_none, errW_some] <;> rfl), by repeat (first | (with_reducible first | exact HB.out | apply below_alloc | apply pw_below_drewN | apply below_drew1) | exact HB.out)⟩
        · replace c10 := Bool.eq_false_iff.mpr c10
          subst c10
          have H1 : ((query_Print.f kj4 l1).bind fun t243 => ((query_Parse.f kj4 t243).bind fun bt244 => ((sprlaw10_utf.f kj4 l1).bind fun t248 => (if t248 = true then (if (t243.size : Int) ≤ 4000 then (if (l1.length : Int) ≤ 256 then (if bt244.2 = 0 then ((sprref_Pairs.f kj4 bt244.1 l1).bind fun t249 => (sprlaw10_FormBack.j1 kj4 a0 (!t249))) else (sprlaw10_FormBack.j1 kj4 a0 true)) else (sprlaw10_FormBack.j1 kj4 a0 false)) else (sprlaw10_FormBack.j1 kj4 a0 false)) else (sprlaw10_FormBack.j1 kj4 a0 false))))) = some r := by rw [if_neg (show ¬ (false = true) by decide)] at H; exact H
          clear H
          have H := H1
          clear H1
          replace H := Option.bind_eq_some_iff.mp H
          obtain ⟨t243, A130, H⟩ := H
          replace H : ((query_Parse.f kj4 t243).bind fun bt244 => ((sprlaw10_utf.f kj4 l1).bind fun t248 => (if t248 = true then (if (t243.size : Int) ≤ 4000 then (if (l1.length : Int) ≤ 256 then (if bt244.2 = 0 then ((sprref_Pairs.f kj4 bt244.1 l1).bind fun t249 => (sprlaw10_FormBack.j1 kj4 a0 (!t249))) else (sprlaw10_FormBack.j1 kj4 a0 true)) else (sprlaw10_FormBack.j1 kj4 a0 false)) else (sprlaw10_FormBack.j1 kj4 a0 false)) else (sprlaw10_FormBack.j1 kj4 a0 false)))) = some r := H
          have A13 := Aside0.mk A130
          clear A130
          replace H := Option.bind_eq_some_iff.mp H
          obtain ⟨⟨t244, t245⟩, A140, H⟩ := H
          replace H : ((sprlaw10_utf.f kj4 l1).bind fun t248 => (if t248 = true then (if (t243.size : Int) ≤ 4000 then (if (l1.length : Int) ≤ 256 then (if t245 = 0 then ((sprref_Pairs.f kj4 t244 l1).bind fun t249 => (sprlaw10_FormBack.j1 kj4 a0 (!t249))) else (sprlaw10_FormBack.j1 kj4 a0 true)) else (sprlaw10_FormBack.j1 kj4 a0 false)) else (sprlaw10_FormBack.j1 kj4 a0 false)) else (sprlaw10_FormBack.j1 kj4 a0 false))) = some r := H
          have A14 := Aside0.mk A140
          clear A140
          have HC15 := Aside0.mk H
          clear H
          go_upto_region 7 with (first | ((with_reducible refine gate_callee (f := 11) rfl ?_); refine goesL_ (some 25) rfl rfl Tryd.func11 (by kernel_rfl) rfl #[.slice A1 l1.length c1] rfl (by (try simp only [List.map_toArray, List.map_cons, List.map_nil]); first | done | rfl | (simp only [List.length_drop, List.length_take]; rfl)) ?_; (with_reducible refine (query_Print.calls kj4 _ _ l1 t243 _ ?side1 ?side2 A13.out).mono ?_); (case side1 => repeat (first | exact (Kd.C_below HR1.out HB.out) | (with_reducible refine Kd.C_alloc ?_ _) | (with_reducible refine Kd.C_drewN ?_ _) | (with_reducible refine Kd.C_drew ?_))); (case side2 => exact HC1.out); rintro e w16 ⟨rfl, hb⟩; refine ⟨_, rfl, ?_⟩; have n0_ := Aside0.mk (below_step (by repeat (first | (with_reducible first | exact HB.out | apply below_alloc | apply pw_below_drewN | apply below_drew1) | exact HB.out)) hb); clear HB; have HB := n0_; clear n0_; (try clear hb); (try clear hb2); (try clear hk); (try clear hi)) | ((with_reducible refine gate_callee (f := 8) rfl ?_); refine goesL_ (some 28) rfl rfl Tryd.func8 (by kernel_rfl) rfl #[.string t243] rfl (by (try simp only [List.map_toArray, List.map_cons, List.map_nil]); first | done | rfl | (simp only [List.length_drop, List.length_take]; rfl)) ?_; (with_reducible refine (query_Parse.calls kj4 t243 t244 t245 _ A14.out (tab_below HT0.out (by repeat (first | (with_reducible first | exact HB.out | apply below_alloc | apply pw_below_drewN | apply below_drew1) | exact HB.out)))).mono ?_); rintro e w17 ⟨v246, rfl, ho0, hb⟩; refine ⟨_, rfl, ?_⟩; have n0_ := Aside0.mk (Kd.R_lower ho0 (below_size (by repeat (first | (with_reducible first | exact HB.out | apply below_alloc | apply pw_below_drewN | apply below_drew1) | exact HB.out)))); have n1_ := Aside0.mk (below_step (by repeat (first | (with_reducible first | exact HB.out | apply below_alloc | apply pw_below_drewN | apply below_drew1) | exact HB.out)) hb); clear HB; have HO247 := n0_; have HB := n1_; clear n0_ n1_; (try clear hb); (try clear hb2); (try clear hk); (try clear hi); (try clear ho0)))
          (try simp only [Act.put, List.setIfInBounds_toArray, List.set_cons_zero, List.set_cons_succ])
          go_cut [52] (fun v52 wc => ∃ (kq : Nat) (x52_14 : Bool), v52 = .bool x52_14 ∧ Aside0 (sprlaw10_FormBack.j1 kq a0 x52_14 = some r) ∧ Aside0 (kq ≤ kj4) ∧ Aside0 (Below w.heap.size w wc))
          case first =>
            have H := HC15.out
            clear HC15
            replace H := Option.bind_eq_some_iff.mp H
            obtain ⟨t248, A180, H⟩ := H
            replace H : (if t248 = true then (if (t243.size : Int) ≤ 4000 then (if (l1.length : Int) ≤ 256 then (if t245 = 0 then ((sprref_Pairs.f kj4 t244 l1).bind fun t249 => (sprlaw10_FormBack.j1 kj4 a0 (!t249))) else (sprlaw10_FormBack.j1 kj4 a0 true)) else (sprlaw10_FormBack.j1 kj4 a0 false)) else (sprlaw10_FormBack.j1 kj4 a0 false)) else (sprlaw10_FormBack.j1 kj4 a0 false)) = some r := H
            have A18 := Aside0.mk A180
            clear A180
            by_cases c19 : t248 = true
            · subst c19
              have H1 : (if (t243.size : Int) ≤ 4000 then (if (l1.length : Int) ≤ 256 then (if t245 = 0 then ((sprref_Pairs.f kj4 t244 l1).bind fun t249 => (sprlaw10_FormBack.j1 kj4 a0 (!t249))) else (sprlaw10_FormBack.j1 kj4 a0 true)) else (sprlaw10_FormBack.j1 kj4 a0 false)) else (sprlaw10_FormBack.j1 kj4 a0 false)) = some r := by rw [if_pos rfl] at H; exact H
              clear H
              have H := H1
              clear H1
              by_cases c20 : (t243.size : Int) ≤ 4000
              · rw [if_pos c20] at H
                have c20b0 : decide ((t243.size : Int) ≤ 4000) = true := decide_eq_true c20
                have c20b1 : decide (t243.size ≤ 4000) = true := decide_eq_true (by omega)
                clear c20
                (first | rw [c20b0] | (simp only [i64_w, i32_w]; rw [c20b0]) | skip)
                by_cases c21 : (l1.length : Int) ≤ 256
                · rw [if_pos c21] at H
                  have c21b0 : decide ((l1.length : Int) ≤ 256) = true := decide_eq_true c21
                  have c21b1 : decide (l1.length ≤ 256) = true := decide_eq_true (by omega)
                  clear c21
                  by_cases c22 : t245 = 0
                  · rw [if_pos c22] at H
                    have c22b0 : (t245 == 0) = true := beq_iff_eq.mpr c22
                    have c22b1 : (t245 != 0) = false := bne_eq_false_iff_eq.mpr c22
                    clear c22
                    replace H := Option.bind_eq_some_iff.mp H
                    obtain ⟨t249, A230, H⟩ := H
                    replace H : (sprlaw10_FormBack.j1 kj4 a0 (!t249)) = some r := H
                    have A23 := Aside0.mk A230
                    clear A230
                    have H' := Aside0.mk H
                    clear H
                    go_wp2_with (first | ((with_reducible refine gate_callee (f := 12) rfl ?_); refine goesL_ (some 32) rfl rfl Tryd.func12 (by kernel_rfl) rfl #[.slice A1 l1.length c1] rfl (by (try simp only [List.map_toArray, List.map_cons, List.map_nil]); first | done | rfl | (simp only [List.length_drop, List.length_take]; rfl)) ?_; (with_reducible refine (sprlaw10_utf.calls kj4 _ _ l1 true _ ?side1 ?side2 A18.out).mono ?_); (case side1 => repeat (first | exact (Kd.C_below HR1.out HB.out) | (with_reducible refine Kd.C_alloc ?_ _) | (with_reducible refine Kd.C_drewN ?_ _) | (with_reducible refine Kd.C_drew ?_))); (case side2 => exact HC1.out); rintro e w24 ⟨rfl, hb⟩; refine ⟨_, rfl, ?_⟩; have n0_ := Aside0.mk (Kd.R_below (by (with_reducible repeat (first | apply Kd.R_alloc | apply Kd.R_drewN | apply Kd.R_drew)); exact HO247.out) hb); have n1_ := Aside0.mk (below_step (by repeat (first | (with_reducible first | exact HB.out | apply below_alloc | apply pw_below_drewN | apply below_drew1) | exact HB.out)) hb); clear HO247; clear HB; have HO247 := n0_; have HB := n1_; clear n0_ n1_; (try clear hb); (try clear hb2); (try clear hk); (try clear hi); obtain ⟨Ao25, co25, eo25⟩ := Kd.R_slice HO247.out; subst eo25) | (go_at_call 9; (with_reducible refine (sprref_Pairs.calls kj4 _ _ t244 _ _ l1 t249 _ ?side1 ?side2 ?side3 ?side4 A23.out).mono ?_); (case side1 => repeat (first | exact (Kd.R_reads' HO247.out).2.2 | (with_reducible refine Kd.C_alloc ?_ _) | (with_reducible refine Kd.C_drewN ?_ _) | (with_reducible refine Kd.C_drew ?_))); (case side2 => exact (Kd.R_reads' HO247.out).2.1); (case side3 => repeat (first | exact (Kd.C_below HR1.out HB.out) | (with_reducible refine Kd.C_alloc ?_ _) | (with_reducible refine Kd.C_drewN ?_ _) | (with_reducible refine Kd.C_drew ?_))); (case side4 => exact HC1.out); rintro e w' ⟨rfl, ⟨nd, rfl⟩⟩))
                    go_meet
                    case rel => exact ⟨_, (!t249), (by first | rfl | (simp; done) | (simp [*]; done)), H', ⟨by have := HJ4.out; first | omega | exact Nat.le_refl _⟩, ⟨by repeat (first | (with_reducible first | exact HB.out | apply below_alloc | apply pw_below_drewN | apply below_drew1) | exact HB.out)⟩⟩
                  · rw [if_neg c22] at H
                    have c22b0 : (t245 == 0) = false := beq_eq_false_iff_ne.mpr c22
                    have c22b1 : (t245 != 0) = true := bne_iff_ne.mpr c22
                    exact absurd H (by cases kj4 with | zero => (simp [sprlaw10_FormBack.j1]) | succ kz => (intro hz; simp only [sprlaw10_FormBack.j1] at hz; exact absurd ((Option.some.inj hz).trans hT.out) (by decide)))
                · rw [if_neg c21] at H
                  have c21b0 : decide ((l1.length : Int) ≤ 256) = false := decide_eq_false c21
                  have c21b1 : decide (l1.length ≤ 256) = false := decide_eq_false (by omega)
                  clear c21
                  have H' := Aside0.mk H
                  clear H
                  go_wp2_with (first | ((with_reducible refine gate_callee (f := 12) rfl ?_); refine goesL_ (some 32) rfl rfl Tryd.func12 (by kernel_rfl) rfl #[.slice A1 l1.length c1] rfl (by (try simp only [List.map_toArray, List.map_cons, List.map_nil]); first | done | rfl | (simp only [List.length_drop, List.length_take]; rfl)) ?_; (with_reducible refine (sprlaw10_utf.calls kj4 _ _ l1 true _ ?side1 ?side2 A18.out).mono ?_); (case side1 => repeat (first | exact (Kd.C_below HR1.out HB.out) | (with_reducible refine Kd.C_alloc ?_ _) | (with_reducible refine Kd.C_drewN ?_ _) | (with_reducible refine Kd.C_drew ?_))); (case side2 => exact HC1.out); rintro e w26 ⟨rfl, hb⟩; refine ⟨_, rfl, ?_⟩; have n0_ := Aside0.mk (Kd.R_below (by (with_reducible repeat (first | apply Kd.R_alloc | apply Kd.R_drewN | apply Kd.R_drew)); exact HO247.out) hb); have n1_ := Aside0.mk (below_step (by repeat (first | (with_reducible first | exact HB.out | apply below_alloc | apply pw_below_drewN | apply below_drew1) | exact HB.out)) hb); clear HO247; clear HB; have HO247 := n0_; have HB := n1_; clear n0_ n1_; (try clear hb); (try clear hb2); (try clear hk); (try clear hi)))
                  go_meet
                  case rel => exact ⟨_, (false), (by first | rfl | (simp; done) | (simp [*]; done)), H', ⟨by have := HJ4.out; first | omega | exact Nat.le_refl _⟩, ⟨by repeat (first | (with_reducible first | exact HB.out | apply below_alloc | apply pw_below_drewN | apply below_drew1) | exact HB.out)⟩⟩
              · rw [if_neg c20] at H
                have c20b0 : decide ((t243.size : Int) ≤ 4000) = false := decide_eq_false c20
                have c20b1 : decide (t243.size ≤ 4000) = false := decide_eq_false (by omega)
                clear c20
                (first | rw [c20b0] | (simp only [i64_w, i32_w]; rw [c20b0]) | skip)
                have H' := Aside0.mk H
                clear H
                go_wp2_with (first | ((with_reducible refine gate_callee (f := 12) rfl ?_); refine goesL_ (some 32) rfl rfl Tryd.func12 (by kernel_rfl) rfl #[.slice A1 l1.length c1] rfl (by (try simp only [List.map_toArray, List.map_cons, List.map_nil]); first | done | rfl | (simp only [List.length_drop, List.length_take]; rfl)) ?_; (with_reducible refine (sprlaw10_utf.calls kj4 _ _ l1 true _ ?side1 ?side2 A18.out).mono ?_); (case side1 => repeat (first | exact (Kd.C_below HR1.out HB.out) | (with_reducible refine Kd.C_alloc ?_ _) | (with_reducible refine Kd.C_drewN ?_ _) | (with_reducible refine Kd.C_drew ?_))); (case side2 => exact HC1.out); rintro e w27 ⟨rfl, hb⟩; refine ⟨_, rfl, ?_⟩; have n0_ := Aside0.mk (Kd.R_below (by (with_reducible repeat (first | apply Kd.R_alloc | apply Kd.R_drewN | apply Kd.R_drew)); exact HO247.out) hb); have n1_ := Aside0.mk (below_step (by repeat (first | (with_reducible first | exact HB.out | apply below_alloc | apply pw_below_drewN | apply below_drew1) | exact HB.out)) hb); clear HO247; clear HB; have HO247 := n0_; have HB := n1_; clear n0_ n1_; (try clear hb); (try clear hb2); (try clear hk); (try clear hi)))
                go_meet
                case rel => exact ⟨_, (false), (by first | rfl | (simp; done) | (simp [*]; done)), H', ⟨by have := HJ4.out; first | omega | exact Nat.le_refl _⟩, ⟨by repeat (first | (with_reducible first | exact HB.out | apply below_alloc | apply pw_below_drewN | apply below_drew1) | exact HB.out)⟩⟩
            · replace c19 := Bool.eq_false_iff.mpr c19
              subst c19
              have H1 : (sprlaw10_FormBack.j1 kj4 a0 false) = some r := by rw [if_neg (show ¬ (false = true) by decide)] at H; exact H
              clear H
              have H := H1
              clear H1
              have H' := Aside0.mk H
              clear H
              go_wp2_with (first | ((with_reducible refine gate_callee (f := 12) rfl ?_); refine goesL_ (some 32) rfl rfl Tryd.func12 (by kernel_rfl) rfl #[.slice A1 l1.length c1] rfl (by (try simp only [List.map_toArray, List.map_cons, List.map_nil]); first | done | rfl | (simp only [List.length_drop, List.length_take]; rfl)) ?_; (with_reducible refine (sprlaw10_utf.calls kj4 _ _ l1 false _ ?side1 ?side2 A18.out).mono ?_); (case side1 => repeat (first | exact (Kd.C_below HR1.out HB.out) | (with_reducible refine Kd.C_alloc ?_ _) | (with_reducible refine Kd.C_drewN ?_ _) | (with_reducible refine Kd.C_drew ?_))); (case side2 => exact HC1.out); rintro e w28 ⟨rfl, hb⟩; refine ⟨_, rfl, ?_⟩; have n0_ := Aside0.mk (Kd.R_below (by (with_reducible repeat (first | apply Kd.R_alloc | apply Kd.R_drewN | apply Kd.R_drew)); exact HO247.out) hb); have n1_ := Aside0.mk (below_step (by repeat (first | (with_reducible first | exact HB.out | apply below_alloc | apply pw_below_drewN | apply below_drew1) | exact HB.out)) hb); clear HO247; clear HB; have HO247 := n0_; have HB := n1_; clear n0_ n1_; (try clear hb); (try clear hb2); (try clear hk); (try clear hi)))
              go_meet
              case rel => exact ⟨_, (false), (by first | rfl | (simp; done) | (simp [*]; done)), H', ⟨by have := HJ4.out; first | omega | exact Nat.le_refl _⟩, ⟨by repeat (first | (with_reducible first | exact HB.out | apply below_alloc | apply pw_below_drewN | apply below_drew1) | exact HB.out)⟩⟩
          case rest =>
            clear HC15
            try clear c1
            try clear c2
            try clear p2
            try clear c4
            try clear c7
            try clear c7b0
            try clear c7b1
            try clear c8
            try clear c10
            try clear c11
            try clear c12
            try clear c19
            try clear c20
            try clear c20b0
            try clear c20b1
            try clear c21
            try clear c21b0
            try clear c21b1
            try clear c22
            try clear c22b0
            try clear c22b1
            try clear p2
            obtain ⟨kq, x52_14, rfl, HA, HJ14, HB⟩ := hcut
            cases kq with
            | zero => exact absurd HA.out (by simp [sprlaw10_FormBack.j1])
            | succ kj14 =>
              have H := HA.out
              clear HA
              simp only [sprlaw10_FormBack.j1] at H
              by_cases c29 : x52_14 = true
              · subst c29
                have H1 : (some false) = some r := by rw [if_pos rfl] at H; exact H
                clear H
                have H := H1
                clear H1
                exact absurd ((Option.some.inj H).trans hT.out) (by decide)
              · replace c29 := Bool.eq_false_iff.mpr c29
                subst c29
                have H1 : ((query_Parse.f kj14 a0).bind fun bt250 => (if bt250.2 = 0 then ((query_Print.f kj14 bt250.1).bind fun t255 => ((query_Parse.f kj14 t255).bind fun bt256 => ((sprlaw10_first.f kj14).bind fun t260 => (if t260 = true then ((sprlaw10_utf.f kj14 bt250.1).bind fun t261 => (if t261 = true then (if (t255.size : Int) > 4000 then (some true) else (if bt256.2 = 0 then ((sprref_Pairs.f kj14 bt256.1 bt250.1).bind fun t262 => (some t262)) else (some false))) else (some false))) else (some false))))) else ((sprlaw10_first.f kj14).bind fun t254 => (if t254 = true then (some ((bt250.1.length : Int) == 0)) else (some false))))) = some r := by rw [if_neg (show ¬ (false = true) by decide)] at H; exact H
                clear H
                have H := H1
                clear H1
                replace H := Option.bind_eq_some_iff.mp H
                obtain ⟨⟨t250, t251⟩, A300, H⟩ := H
                replace H : (if t251 = 0 then ((query_Print.f kj14 t250).bind fun t255 => ((query_Parse.f kj14 t255).bind fun bt256 => ((sprlaw10_first.f kj14).bind fun t260 => (if t260 = true then ((sprlaw10_utf.f kj14 t250).bind fun t261 => (if t261 = true then (if (t255.size : Int) > 4000 then (some true) else (if bt256.2 = 0 then ((sprref_Pairs.f kj14 bt256.1 t250).bind fun t262 => (some t262)) else (some false))) else (some false))) else (some false))))) else ((sprlaw10_first.f kj14).bind fun t254 => (if t254 = true then (some ((t250.length : Int) == 0)) else (some false)))) = some r := H
                have A30 := Aside0.mk A300
                clear A300
                by_cases c31 : t251 = 0
                · rw [if_pos c31] at H
                  have c31b0 : (t251 == 0) = true := beq_iff_eq.mpr c31
                  have c31b1 : (t251 != 0) = false := bne_eq_false_iff_eq.mpr c31
                  clear c31
                  replace H := Option.bind_eq_some_iff.mp H
                  obtain ⟨t255, A320, H⟩ := H
                  replace H : ((query_Parse.f kj14 t255).bind fun bt256 => ((sprlaw10_first.f kj14).bind fun t260 => (if t260 = true then ((sprlaw10_utf.f kj14 t250).bind fun t261 => (if t261 = true then (if (t255.size : Int) > 4000 then (some true) else (if bt256.2 = 0 then ((sprref_Pairs.f kj14 bt256.1 t250).bind fun t262 => (some t262)) else (some false))) else (some false))) else (some false)))) = some r := H
                  have A32 := Aside0.mk A320
                  clear A320
                  replace H := Option.bind_eq_some_iff.mp H
                  obtain ⟨⟨t256, t257⟩, A330, H⟩ := H
                  replace H : ((sprlaw10_first.f kj14).bind fun t260 => (if t260 = true then ((sprlaw10_utf.f kj14 t250).bind fun t261 => (if t261 = true then (if (t255.size : Int) > 4000 then (some true) else (if t257 = 0 then ((sprref_Pairs.f kj14 t256 t250).bind fun t262 => (some t262)) else (some false))) else (some false))) else (some false))) = some r := H
                  have A33 := Aside0.mk A330
                  clear A330
                  replace H := Option.bind_eq_some_iff.mp H
                  obtain ⟨t260, A340, H⟩ := H
                  replace H : (if t260 = true then ((sprlaw10_utf.f kj14 t250).bind fun t261 => (if t261 = true then (if (t255.size : Int) > 4000 then (some true) else (if t257 = 0 then ((sprref_Pairs.f kj14 t256 t250).bind fun t262 => (some t262)) else (some false))) else (some false))) else (some false)) = some r := H
                  have A34 := Aside0.mk A340
                  clear A340
                  by_cases c35 : t260 = true
                  · subst c35
                    have H1 : ((sprlaw10_utf.f kj14 t250).bind fun t261 => (if t261 = true then (if (t255.size : Int) > 4000 then (some true) else (if t257 = 0 then ((sprref_Pairs.f kj14 t256 t250).bind fun t262 => (some t262)) else (some false))) else (some false))) = some r := by rw [if_pos rfl] at H; exact H
                    clear H
                    have H := H1
                    clear H1
                    replace H := Option.bind_eq_some_iff.mp H
                    obtain ⟨t261, A360, H⟩ := H
                    replace H : (if t261 = true then (if (t255.size : Int) > 4000 then (some true) else (if t257 = 0 then ((sprref_Pairs.f kj14 t256 t250).bind fun t262 => (some t262)) else (some false))) else (some false)) = some r := H
                    have A36 := Aside0.mk A360
                    clear A360
                    by_cases c37 : t261 = true
                    · subst c37
                      have H1 : (if (t255.size : Int) > 4000 then (some true) else (if t257 = 0 then ((sprref_Pairs.f kj14 t256 t250).bind fun t262 => (some t262)) else (some false))) = some r := by rw [if_pos rfl] at H; exact H
                      clear H
                      have H := H1
                      clear H1
                      by_cases c38 : (t255.size : Int) > 4000
                      · rw [if_pos c38] at H
                        have c38b0 : decide (4000 < (t255.size : Int)) = true := decide_eq_true c38
                        have c38b1 : decide (4000 < t255.size) = true := decide_eq_true (by omega)
                        clear c38
                        obtain rfl := Option.some.inj H
                        go_wp2_with (first | ((with_reducible refine gate_callee (f := 8) rfl ?_); refine goesL_ (some 55) rfl rfl Tryd.func8 (by kernel_rfl) rfl #[.string a0] rfl (by (try simp only [List.map_toArray, List.map_cons, List.map_nil]); first | done | rfl | (simp only [List.length_drop, List.length_take]; rfl)) ?_; (with_reducible refine (query_Parse.calls kj14 a0 t250 t251 _ A30.out (tab_below HT0.out (by repeat (first | (with_reducible first | exact HB.out | apply below_alloc | apply pw_below_drewN | apply below_drew1) | exact HB.out)))).mono ?_); rintro e w39 ⟨v252, rfl, ho0, hb⟩; refine ⟨_, rfl, ?_⟩; have n0_ := Aside0.mk (Kd.R_lower ho0 (below_size (by repeat (first | (with_reducible first | exact HB.out | apply below_alloc | apply pw_below_drewN | apply below_drew1) | exact HB.out)))); have n1_ := Aside0.mk (below_step (by repeat (first | (with_reducible first | exact HB.out | apply below_alloc | apply pw_below_drewN | apply below_drew1) | exact HB.out)) hb); clear HB; have HO253 := n0_; have HB := n1_; clear n0_ n1_; (try clear hb); (try clear hb2); (try clear hk); (try clear hi); (try clear ho0); obtain ⟨Ao40, co40, eo40⟩ := Kd.R_slice HO253.out; subst eo40) | ((with_reducible refine gate_callee (f := 11) rfl ?_); refine goesL_ (some 67) rfl rfl Tryd.func11 (by kernel_rfl) rfl #[.slice Ao40 t250.length co40] rfl (by (try simp only [List.map_toArray, List.map_cons, List.map_nil]); first | done | rfl | (simp only [List.length_drop, List.length_take]; rfl)) ?_; (with_reducible refine (query_Print.calls kj14 _ _ t250 t255 _ ?side1 ?side2 A32.out).mono ?_); (case side1 => repeat (first | exact (Kd.R_reads' HO253.out).2.2 | (with_reducible refine Kd.C_alloc ?_ _) | (with_reducible refine Kd.C_drewN ?_ _) | (with_reducible refine Kd.C_drew ?_))); (case side2 => exact (Kd.R_reads' HO253.out).2.1); rintro e w41 ⟨rfl, hb⟩; refine ⟨_, rfl, ?_⟩; have n0_ := Aside0.mk (Kd.R_below (by (with_reducible repeat (first | apply Kd.R_alloc | apply Kd.R_drewN | apply Kd.R_drew)); exact HO253.out) hb); have n1_ := Aside0.mk (below_step (by repeat (first | (with_reducible first | exact HB.out | apply below_alloc | apply pw_below_drewN | apply below_drew1) | exact HB.out)) hb); clear HO253; clear HB; have HO253 := n0_; have HB := n1_; clear n0_ n1_; (try clear hb); (try clear hb2); (try clear hk); (try clear hi)) | ((with_reducible refine gate_callee (f := 8) rfl ?_); refine goesL_ (some 70) rfl rfl Tryd.func8 (by kernel_rfl) rfl #[.string t255] rfl (by (try simp only [List.map_toArray, List.map_cons, List.map_nil]); first | done | rfl | (simp only [List.length_drop, List.length_take]; rfl)) ?_; (with_reducible refine (query_Parse.calls kj14 t255 t256 t257 _ A33.out (tab_below HT0.out (by repeat (first | (with_reducible first | exact HB.out | apply below_alloc | apply pw_below_drewN | apply below_drew1) | exact HB.out)))).mono ?_); rintro e w42 ⟨v258, rfl, ho0, hb⟩; refine ⟨_, rfl, ?_⟩; have n0_ := Aside0.mk (Kd.R_elder' (by (with_reducible repeat (first | apply Kd.R_alloc | apply Kd.R_drewN | apply Kd.R_drew)); exact HO253.out) (Kd.R_base ho0) hb); have n1_ := Aside0.mk (Kd.R_lower (Kd.R_new' ho0 (Kd.R_lt (by (with_reducible repeat (first | apply Kd.R_alloc | apply Kd.R_drewN | apply Kd.R_drew)); exact HO253.out))) (below_size (by repeat (first | (with_reducible first | exact HB.out | apply below_alloc | apply pw_below_drewN | apply below_drew1) | exact HB.out)))); have n2_ := Aside0.mk (below_step (by repeat (first | (with_reducible first | exact HB.out | apply below_alloc | apply pw_below_drewN | apply below_drew1) | exact HB.out)) hb); clear HO253; clear HB; have HO253 := n0_; have HO259 := n1_; have HB := n2_; clear n0_ n1_ n2_; (try clear hb); (try clear hb2); (try clear hk); (try clear hi); (try clear ho0)) | ((with_reducible refine gate_callee (f := 7) rfl ?_); refine goesL_ (some 73) rfl rfl Tryd.func7 (by kernel_rfl) rfl #[] rfl (by (try simp only [List.map_toArray, List.map_cons, List.map_nil]); first | done | rfl | (simp only [List.length_drop, List.length_take]; rfl)) ?_; (with_reducible refine (sprlaw10_first.calls kj14  true _ A34.out (tab_below HT0.out (by repeat (first | (with_reducible first | exact HB.out | apply below_alloc | apply pw_below_drewN | apply below_drew1) | exact HB.out)))).mono ?_); rintro e w43 ⟨rfl, hb⟩; refine ⟨_, rfl, ?_⟩; have n0_ := Aside0.mk (Kd.R_below (by (with_reducible repeat (first | apply Kd.R_alloc | apply Kd.R_drewN | apply Kd.R_drew)); exact HO253.out) hb); have n1_ := Aside0.mk (Kd.R_below (by (with_reducible repeat (first | apply Kd.R_alloc | apply Kd.R_drewN | apply Kd.R_drew)); exact HO259.out) hb); have n2_ := Aside0.mk (below_step (by repeat (first | (with_reducible first | exact HB.out | apply below_alloc | apply pw_below_drewN | apply below_drew1) | exact HB.out)) hb); clear HO253; clear HO259; clear HB; have HO253 := n0_; have HO259 := n1_; have HB := n2_; clear n0_ n1_ n2_; (try clear hb); (try clear hb2); (try clear hk); (try clear hi)) | (go_at_call 12; (with_reducible refine (sprlaw10_utf.calls kj14 _ _ t250 true _ ?side1 ?side2 A36.out).mono ?_); (case side1 => repeat (first | exact (Kd.R_reads' HO253.out).2.2 | (with_reducible refine Kd.C_alloc ?_ _) | (with_reducible refine Kd.C_drewN ?_ _) | (with_reducible refine Kd.C_drew ?_))); (case side2 => exact (Kd.R_reads' HO253.out).2.1); rintro e w44 ⟨rfl, hb⟩; have n0_ := Aside0.mk (Kd.R_below (by (with_reducible repeat (first | apply Kd.R_alloc | apply Kd.R_drewN | apply Kd.R_drew)); exact HO253.out) hb); have n1_ := Aside0.mk (Kd.R_below (by (with_reducible repeat (first | apply Kd.R_alloc | apply Kd.R_drewN | apply Kd.R_drew)); exact HO259.out) hb); have n2_ := Aside0.mk (below_step (by repeat (first | (with_reducible first | exact HB.out | apply below_alloc | apply pw_below_drewN | apply below_drew1) | exact HB.out)) hb); clear HO253; clear HO259; clear HB; have HO253 := n0_; have HO259 := n1_; have HB := n2_; clear n0_ n1_ n2_; (try clear hb); (try clear hb2); (try clear hk); (try clear hi)))
                        go_ret
                        exact ⟨by first | rfl | (simp [errW_none, errW_some] <;> rfl) | (simp [*, errW_none, errW_some] <;> rfl), by repeat (first | (with_reducible first | exact HB.out | apply below_alloc | apply pw_below_drewN | apply below_drew1) | exact HB.out)⟩
                      · rw [if_neg c38] at H
                        have c38b0 : decide (4000 < (t255.size : Int)) = false := decide_eq_false c38
                        have c38b1 : decide (4000 < t255.size) = false := decide_eq_false (by omega)
                        clear c38
                        by_cases c45 : t257 = 0
                        · rw [if_pos c45] at H
                          have c45b0 : (t257 == 0) = true := beq_iff_eq.mpr c45
                          have c45b1 : (t257 != 0) = false := bne_eq_false_iff_eq.mpr c45
                          clear c45
                          replace H := Option.bind_eq_some_iff.mp H
                          obtain ⟨t262, A460, H⟩ := H
                          replace H : (some t262) = some r := H
                          have A46 := Aside0.mk A460
                          clear A460
                          obtain rfl := Option.some.inj H
                          go_wp2_with (first | ((with_reducible refine gate_callee (f := 8) rfl ?_); refine goesL_ (some 55) rfl rfl Tryd.func8 (by kernel_rfl) rfl #[.string a0] rfl (by (try simp only [List.map_toArray, List.map_cons, List.map_nil]); first | done | rfl | (simp only [List.length_drop, List.length_take]; rfl)) ?_; (with_reducible refine (query_Parse.calls kj14 a0 t250 t251 _ A30.out (tab_below HT0.out (by repeat (first | (with_reducible first | exact HB.out | apply below_alloc | apply pw_below_drewN | apply below_drew1) | exact HB.out)))).mono ?_); rintro e w47 ⟨v252, rfl, ho0, hb⟩; refine ⟨_, rfl, ?_⟩; have n0_ := Aside0.mk (Kd.R_lower ho0 (below_size (by repeat (first | (with_reducible first | exact HB.out | apply below_alloc | apply pw_below_drewN | apply below_drew1) | exact HB.out)))); have n1_ := Aside0.mk (below_step (by repeat (first | (with_reducible first | exact HB.out | apply below_alloc | apply pw_below_drewN | apply below_drew1) | exact HB.out)) hb); clear HB; have HO253 := n0_; have HB := n1_; clear n0_ n1_; (try clear hb); (try clear hb2); (try clear hk); (try clear hi); (try clear ho0); obtain ⟨Ao48, co48, eo48⟩ := Kd.R_slice HO253.out; subst eo48) | ((with_reducible refine gate_callee (f := 11) rfl ?_); refine goesL_ (some 67) rfl rfl Tryd.func11 (by kernel_rfl) rfl #[.slice Ao48 t250.length co48] rfl (by (try simp only [List.map_toArray, List.map_cons, List.map_nil]); first | done | rfl | (simp only [List.length_drop, List.length_take]; rfl)) ?_; (with_reducible refine (query_Print.calls kj14 _ _ t250 t255 _ ?side1 ?side2 A32.out).mono ?_); (case side1 => repeat (first | exact (Kd.R_reads' HO253.out).2.2 | (with_reducible refine Kd.C_alloc ?_ _) | (with_reducible refine Kd.C_drewN ?_ _) | (with_reducible refine Kd.C_drew ?_))); (case side2 => exact (Kd.R_reads' HO253.out).2.1); rintro e w49 ⟨rfl, hb⟩; refine ⟨_, rfl, ?_⟩; have n0_ := Aside0.mk (Kd.R_below (by (with_reducible repeat (first | apply Kd.R_alloc | apply Kd.R_drewN | apply Kd.R_drew)); exact HO253.out) hb); have n1_ := Aside0.mk (below_step (by repeat (first | (with_reducible first | exact HB.out | apply below_alloc | apply pw_below_drewN | apply below_drew1) | exact HB.out)) hb); clear HO253; clear HB; have HO253 := n0_; have HB := n1_; clear n0_ n1_; (try clear hb); (try clear hb2); (try clear hk); (try clear hi)) | ((with_reducible refine gate_callee (f := 8) rfl ?_); refine goesL_ (some 70) rfl rfl Tryd.func8 (by kernel_rfl) rfl #[.string t255] rfl (by (try simp only [List.map_toArray, List.map_cons, List.map_nil]); first | done | rfl | (simp only [List.length_drop, List.length_take]; rfl)) ?_; (with_reducible refine (query_Parse.calls kj14 t255 t256 t257 _ A33.out (tab_below HT0.out (by repeat (first | (with_reducible first | exact HB.out | apply below_alloc | apply pw_below_drewN | apply below_drew1) | exact HB.out)))).mono ?_); rintro e w50 ⟨v258, rfl, ho0, hb⟩; refine ⟨_, rfl, ?_⟩; have n0_ := Aside0.mk (Kd.R_elder' (by (with_reducible repeat (first | apply Kd.R_alloc | apply Kd.R_drewN | apply Kd.R_drew)); exact HO253.out) (Kd.R_base ho0) hb); have n1_ := Aside0.mk (Kd.R_lower (Kd.R_new' ho0 (Kd.R_lt (by (with_reducible repeat (first | apply Kd.R_alloc | apply Kd.R_drewN | apply Kd.R_drew)); exact HO253.out))) (below_size (by repeat (first | (with_reducible first | exact HB.out | apply below_alloc | apply pw_below_drewN | apply below_drew1) | exact HB.out)))); have n2_ := Aside0.mk (below_step (by repeat (first | (with_reducible first | exact HB.out | apply below_alloc | apply pw_below_drewN | apply below_drew1) | exact HB.out)) hb); clear HO253; clear HB; have HO253 := n0_; have HO259 := n1_; have HB := n2_; clear n0_ n1_ n2_; (try clear hb); (try clear hb2); (try clear hk); (try clear hi); (try clear ho0)) | ((with_reducible refine gate_callee (f := 7) rfl ?_); refine goesL_ (some 73) rfl rfl Tryd.func7 (by kernel_rfl) rfl #[] rfl (by (try simp only [List.map_toArray, List.map_cons, List.map_nil]); first | done | rfl | (simp only [List.length_drop, List.length_take]; rfl)) ?_; (with_reducible refine (sprlaw10_first.calls kj14  true _ A34.out (tab_below HT0.out (by repeat (first | (with_reducible first | exact HB.out | apply below_alloc | apply pw_below_drewN | apply below_drew1) | exact HB.out)))).mono ?_); rintro e w51 ⟨rfl, hb⟩; refine ⟨_, rfl, ?_⟩; have n0_ := Aside0.mk (Kd.R_below (by (with_reducible repeat (first | apply Kd.R_alloc | apply Kd.R_drewN | apply Kd.R_drew)); exact HO253.out) hb); have n1_ := Aside0.mk (Kd.R_below (by (with_reducible repeat (first | apply Kd.R_alloc | apply Kd.R_drewN | apply Kd.R_drew)); exact HO259.out) hb); have n2_ := Aside0.mk (below_step (by repeat (first | (with_reducible first | exact HB.out | apply below_alloc | apply pw_below_drewN | apply below_drew1) | exact HB.out)) hb); clear HO253; clear HO259; clear HB; have HO253 := n0_; have HO259 := n1_; have HB := n2_; clear n0_ n1_ n2_; (try clear hb); (try clear hb2); (try clear hk); (try clear hi)) | (go_at_call 12; (with_reducible refine (sprlaw10_utf.calls kj14 _ _ t250 true _ ?side1 ?side2 A36.out).mono ?_); (case side1 => repeat (first | exact (Kd.R_reads' HO253.out).2.2 | (with_reducible refine Kd.C_alloc ?_ _) | (with_reducible refine Kd.C_drewN ?_ _) | (with_reducible refine Kd.C_drew ?_))); (case side2 => exact (Kd.R_reads' HO253.out).2.1); rintro e w52 ⟨rfl, hb⟩; have n0_ := Aside0.mk (Kd.R_below (by (with_reducible repeat (first | apply Kd.R_alloc | apply Kd.R_drewN | apply Kd.R_drew)); exact HO253.out) hb); have n1_ := Aside0.mk (Kd.R_below (by (with_reducible repeat (first | apply Kd.R_alloc | apply Kd.R_drewN | apply Kd.R_drew)); exact HO259.out) hb); have n2_ := Aside0.mk (below_step (by repeat (first | (with_reducible first | exact HB.out | apply below_alloc | apply pw_below_drewN | apply below_drew1) | exact HB.out)) hb); clear HO253; clear HO259; clear HB; have HO253 := n0_; have HO259 := n1_; have HB := n2_; clear n0_ n1_ n2_; (try clear hb); (try clear hb2); (try clear hk); (try clear hi); obtain ⟨Ao53, co53, eo53⟩ := Kd.R_slice HO259.out; subst eo53) | (go_at_call 9; (with_reducible refine (sprref_Pairs.calls kj14 _ _ t256 _ _ t250 t262 _ ?side1 ?side2 ?side3 ?side4 A46.out).mono ?_); (case side1 => repeat (first | exact (Kd.R_reads' HO259.out).2.2 | (with_reducible refine Kd.C_alloc ?_ _) | (with_reducible refine Kd.C_drewN ?_ _) | (with_reducible refine Kd.C_drew ?_))); (case side2 => exact (Kd.R_reads' HO259.out).2.1); (case side3 => repeat (first | exact (Kd.R_reads' HO253.out).2.2 | (with_reducible refine Kd.C_alloc ?_ _) | (with_reducible refine Kd.C_drewN ?_ _) | (with_reducible refine Kd.C_drew ?_))); (case side4 => exact (Kd.R_reads' HO253.out).2.1); rintro e w' ⟨rfl, ⟨nd, rfl⟩⟩))
                          go_ret
                          exact ⟨by first | rfl | (simp [errW_none, errW_some] <;> rfl) | (simp [*, errW_none, errW_some] <;> rfl), by repeat (first | (with_reducible first | exact HB.out | apply below_alloc | apply pw_below_drewN | apply below_drew1) | exact HB.out)⟩
                        · rw [if_neg c45] at H
                          have c45b0 : (t257 == 0) = false := beq_eq_false_iff_ne.mpr c45
                          have c45b1 : (t257 != 0) = true := bne_iff_ne.mpr c45
                          exact absurd ((Option.some.inj H).trans hT.out) (by decide)
                    · replace c37 := Bool.eq_false_iff.mpr c37
                      subst c37
                      have H1 : (some false) = some r := by rw [if_neg (show ¬ (false = true) by decide)] at H; exact H
                      clear H
                      have H := H1
                      clear H1
                      exact absurd ((Option.some.inj H).trans hT.out) (by decide)
                  · replace c35 := Bool.eq_false_iff.mpr c35
                    subst c35
                    have H1 : (some false) = some r := by rw [if_neg (show ¬ (false = true) by decide)] at H; exact H
                    clear H
                    have H := H1
                    clear H1
                    exact absurd ((Option.some.inj H).trans hT.out) (by decide)
                · rw [if_neg c31] at H
                  have c31b0 : (t251 == 0) = false := beq_eq_false_iff_ne.mpr c31
                  have c31b1 : (t251 != 0) = true := bne_iff_ne.mpr c31
                  replace H := Option.bind_eq_some_iff.mp H
                  obtain ⟨t254, A540, H⟩ := H
                  replace H : (if t254 = true then (some ((t250.length : Int) == 0)) else (some false)) = some r := H
                  have A54 := Aside0.mk A540
                  clear A540
                  by_cases c55 : t254 = true
                  · subst c55
                    have H1 : (some ((t250.length : Int) == 0)) = some r := by rw [if_pos rfl] at H; exact H
                    clear H
                    have H := H1
                    clear H1
                    obtain rfl := Option.some.inj H
                    go_wp2_with (first | ((with_reducible refine gate_callee (f := 8) rfl ?_); refine goesL_ (some 55) rfl rfl Tryd.func8 (by kernel_rfl) rfl #[.string a0] rfl (by (try simp only [List.map_toArray, List.map_cons, List.map_nil]); first | done | rfl | (simp only [List.length_drop, List.length_take]; rfl)) ?_; (with_reducible refine (query_Parse.calls kj14 a0 t250 t251 _ A30.out (tab_below HT0.out (by repeat (first | (with_reducible first | exact HB.out | apply below_alloc | apply pw_below_drewN | apply below_drew1) | exact HB.out)))).mono ?_); rintro e w56 ⟨v252, rfl, ho0, hb⟩; refine ⟨_, rfl, ?_⟩; have n0_ := Aside0.mk (Kd.R_lower ho0 (below_size (by repeat (first | (with_reducible first | exact HB.out | apply below_alloc | apply pw_below_drewN | apply below_drew1) | exact HB.out)))); have n1_ := Aside0.mk (below_step (by repeat (first | (with_reducible first | exact HB.out | apply below_alloc | apply pw_below_drewN | apply below_drew1) | exact HB.out)) hb); clear HB; have HO253 := n0_; have HB := n1_; clear n0_ n1_; (try clear hb); (try clear hb2); (try clear hk); (try clear hi); (try clear ho0)) | ((with_reducible refine gate_callee (f := 7) rfl ?_); refine goesL_ (some 60) rfl rfl Tryd.func7 (by kernel_rfl) rfl #[] rfl (by (try simp only [List.map_toArray, List.map_cons, List.map_nil]); first | done | rfl | (simp only [List.length_drop, List.length_take]; rfl)) ?_; (with_reducible refine (sprlaw10_first.calls kj14  true _ A54.out (tab_below HT0.out (by repeat (first | (with_reducible first | exact HB.out | apply below_alloc | apply pw_below_drewN | apply below_drew1) | exact HB.out)))).mono ?_); rintro e w57 ⟨rfl, hb⟩; refine ⟨_, rfl, ?_⟩; have n0_ := Aside0.mk (Kd.R_below (by (with_reducible repeat (first | apply Kd.R_alloc | apply Kd.R_drewN | apply Kd.R_drew)); exact HO253.out) hb); have n1_ := Aside0.mk (below_step (by repeat (first | (with_reducible first | exact HB.out | apply below_alloc | apply pw_below_drewN | apply below_drew1) | exact HB.out)) hb); clear HO253; clear HB; have HO253 := n0_; have HB := n1_; clear n0_ n1_; (try clear hb); (try clear hb2); (try clear hk); (try clear hi); obtain ⟨Ao58, co58, eo58⟩ := Kd.R_slice HO253.out; subst eo58))
                    go_ret
                    exact ⟨by first | rfl | (simp [errW_none, errW_some] <;> rfl) | (simp [*, errW_none, errW_some] <;> rfl), by repeat (first | (with_reducible first | exact HB.out | apply below_alloc | apply pw_below_drewN | apply below_drew1) | exact HB.out)⟩
                  · replace c55 := Bool.eq_false_iff.mpr c55
                    subst c55
                    have H1 : (some false) = some r := by rw [if_neg (show ¬ (false = true) by decide)] at H; exact H
                    clear H
                    have H := H1
                    clear H1
                    exact absurd ((Option.some.inj H).trans hT.out) (by decide)
  · replace c4 := Bool.eq_false_iff.mpr c4
    subst c4
    have H1 : (some false) = some r := by rw [if_neg (show ¬ (false = true) by decide)] at H; exact H
    clear H
    have H := H1
    clear H1
    exact absurd ((Option.some.inj H).trans hT.out) (by decide)

/-! ### sprlaw10_FormOne: function 5 -/
mutual
def sprlaw10_FormOne.j0 : Nat → ByteArray → ByteArray → Int → Bool → Option (Bool)
  | 0, _, _, _, _ => none
  | k + 1, x0, x1, x2, x40 => if x40 = true then ((sprlaw10_first.f k).bind fun t268 => (some t268)) else (if x0.size + 5 ≤ 9223372036854775807 then (if x1.size + 5 ≤ 9223372036854775807 then ((some (([(⟨x0 ++ (⟨#[37, 32, 43, 38, 61]⟩ : ByteArray), x1 ++ (⟨#[43, 37, 52, 49, 32]⟩ : ByteArray)⟩ : S33)] : List (S33)) : List (S33))).bind fun y269 => ((query_Print.f k y269).bind fun t272 => (sprlaw10_FormOne.l0 k x2 y269 t272 (⟨#[]⟩ : ByteArray) 0))) else (none)) else (none))
def sprlaw10_FormOne.l0 : Nat → Int → List (S33) → ByteArray → ByteArray → Int → Option (Bool)
  | 0, _, _, _, _, _ => none
  | k + 1, x2, x7, x8, x9, x10 => if x10 < x2 then (if x9.size + 1 ≤ 9223372036854775807 then (sprlaw10_FormOne.l0 k x2 x7 x8 (x9 ++ (⟨#[38]⟩ : ByteArray)) (wrap64 (x10 + 1))) else (none)) else (if x9.size + x8.size ≤ 9223372036854775807 then (if (x9 ++ x8).size + x9.size ≤ 9223372036854775807 then ((query_Parse.f k ((x9 ++ x8) ++ x9)).bind fun bt273 => ((query_Parse.f k x9).bind fun bt277 => ((sprlaw10_first.f k).bind fun t281 => (if t281 = true then (if bt273.2 = 0 then ((sprref_Pairs.f k bt273.1 x7).bind fun t282 => (if t282 = true then (if bt277.2 = 0 then (some ((bt277.1.length : Int) == 0)) else (some false)) else (some false))) else (some false)) else (some false))))) else (none)) else (none))
end
def sprlaw10_FormOne.f (k : Nat) (a0 : ByteArray) (a1 : ByteArray) (a2 : Int) : Option (Bool) := (sprlaw10_first.f k).bind fun t263 => (if t263 = true then (if (a0.size : Int) > 200 then (sprlaw10_FormOne.j0 k a0 a1 a2 true) else (if (a1.size : Int) > 200 then (sprlaw10_FormOne.j0 k a0 a1 a2 true) else (if a2 < 0 then (sprlaw10_FormOne.j0 k a0 a1 a2 true) else (if a2 > 50 then (sprlaw10_FormOne.j0 k a0 a1 a2 true) else ((sprlaw10_utf.f k (([(⟨a0, a1⟩ : S33)] : List (S33)))).bind fun t267 => (sprlaw10_FormOne.j0 k a0 a1 a2 (!t267))))))) else (some false))
theorem sprlaw10_FormOne.mono_l : ∀ k, (∀ y0 y1 y2 y3, LeO (sprlaw10_FormOne.j0 k y0 y1 y2 y3) (sprlaw10_FormOne.j0 (k + 1) y0 y1 y2 y3)) ∧ (∀ y0 y1 y2 y3 y4, LeO (sprlaw10_FormOne.l0 k y0 y1 y2 y3 y4) (sprlaw10_FormOne.l0 (k + 1) y0 y1 y2 y3 y4))
  | 0 => ⟨fun _ _ _ _ r h => by simp [sprlaw10_FormOne.j0] at h, fun _ _ _ _ _ r h => by simp [sprlaw10_FormOne.l0] at h⟩
  | k + 1 => by
    obtain ⟨ih0, ih1⟩ := sprlaw10_FormOne.mono_l k
    refine ⟨?_, ?_⟩
    · intro y0 y1 y2 y3
      unfold sprlaw10_FormOne.j0
      repeat' first
      | (with_reducible exact ih0 _ _ _ _)
      | (with_reducible exact ih1 _ _ _ _ _)
      | (with_reducible exact query_Parse.mono _ _)
      | (with_reducible exact query_Print.mono _ _)
      | (with_reducible exact sprlaw10_first.mono _)
      | (with_reducible exact sprlaw10_utf.mono _ _)
      | (with_reducible exact sprref_Pairs.mono _ _ _)
      | (with_reducible exact LeO.refl _)
      | (with_reducible exact LeO.none _)
      | (with_reducible refine LeO.ite ?_ ?_)
      | (with_reducible refine LeO.bind ?_ (fun _ => ?_))
      | exact ih0 _ _ _ _
      | exact ih1 _ _ _ _ _
      | exact query_Parse.mono _ _
      | exact query_Print.mono _ _
      | exact sprlaw10_first.mono _
      | exact sprlaw10_utf.mono _ _
      | exact sprref_Pairs.mono _ _ _
      | exact LeO.none _
      | refine LeO.ite ?_ ?_
      | refine LeO.bind ?_ (fun _ => ?_)
    · intro y0 y1 y2 y3 y4
      unfold sprlaw10_FormOne.l0
      repeat' first
      | (with_reducible exact ih0 _ _ _ _)
      | (with_reducible exact ih1 _ _ _ _ _)
      | (with_reducible exact query_Parse.mono _ _)
      | (with_reducible exact query_Print.mono _ _)
      | (with_reducible exact sprlaw10_first.mono _)
      | (with_reducible exact sprlaw10_utf.mono _ _)
      | (with_reducible exact sprref_Pairs.mono _ _ _)
      | (with_reducible exact LeO.refl _)
      | (with_reducible exact LeO.none _)
      | (with_reducible refine LeO.ite ?_ ?_)
      | (with_reducible refine LeO.bind ?_ (fun _ => ?_))
      | exact ih0 _ _ _ _
      | exact ih1 _ _ _ _ _
      | exact query_Parse.mono _ _
      | exact query_Print.mono _ _
      | exact sprlaw10_first.mono _
      | exact sprlaw10_utf.mono _ _
      | exact sprref_Pairs.mono _ _ _
      | exact LeO.none _
      | refine LeO.ite ?_ ?_
      | refine LeO.bind ?_ (fun _ => ?_)
theorem sprlaw10_FormOne.mono : ∀ a0 a1 a2 k, LeO (sprlaw10_FormOne.f k a0 a1 a2) (sprlaw10_FormOne.f (k + 1) a0 a1 a2) := by
  intro a0 a1 a2 k
  obtain ⟨ih0, ih1⟩ := sprlaw10_FormOne.mono_l k
  unfold sprlaw10_FormOne.f
  repeat' first
      | (with_reducible exact ih0 _ _ _ _)
      | (with_reducible exact ih1 _ _ _ _ _)
      | (with_reducible exact query_Parse.mono _ _)
      | (with_reducible exact query_Print.mono _ _)
      | (with_reducible exact sprlaw10_first.mono _)
      | (with_reducible exact sprlaw10_utf.mono _ _)
      | (with_reducible exact sprref_Pairs.mono _ _ _)
      | (with_reducible exact LeO.refl _)
      | (with_reducible exact LeO.none _)
      | (with_reducible refine LeO.ite ?_ ?_)
      | (with_reducible refine LeO.bind ?_ (fun _ => ?_))
      | exact ih0 _ _ _ _
      | exact ih1 _ _ _ _ _
      | exact query_Parse.mono _ _
      | exact query_Print.mono _ _
      | exact sprlaw10_first.mono _
      | exact sprlaw10_utf.mono _ _
      | exact sprref_Pairs.mono _ _ _
      | exact LeO.none _
      | refine LeO.ite ?_ ?_
      | refine LeO.bind ?_ (fun _ => ?_)
set_option maxHeartbeats 2000000 in
set_option maxRecDepth 100000 in
theorem sprlaw10_FormOne.calls (k : Nat) (a0 : ByteArray) (a1 : ByteArray) (a2 : Int) (r : Bool) (w : World) (h : sprlaw10_FormOne.f k a0 a1 a2 = some r) (hT : Aside0 (r = true)) (hT0 : replW w) :
    Calls Tryd.prog 5 #[.string a0, .string a1, .int .i64 a2] w fun e w' => e = .returned (.bool r) ∧ Below w.heap.size w w' := by
  have HT0 := Aside0.mk hT0
  clear hT0
  have hu33 := Tryd.underlying33
  have HB := Aside0.mk (Below.refl w.heap.size w)
  have H : ((sprlaw10_first.f k).bind fun t263 => (if t263 = true then (if (a0.size : Int) > 200 then (sprlaw10_FormOne.j0 k a0 a1 a2 true) else (if (a1.size : Int) > 200 then (sprlaw10_FormOne.j0 k a0 a1 a2 true) else (if a2 < 0 then (sprlaw10_FormOne.j0 k a0 a1 a2 true) else (if a2 > 50 then (sprlaw10_FormOne.j0 k a0 a1 a2 true) else ((sprlaw10_utf.f k (([(⟨a0, a1⟩ : S33)] : List (S33)))).bind fun t267 => (sprlaw10_FormOne.j0 k a0 a1 a2 (!t267))))))) else (some false))) = some r := h
  clear h
  replace H := Option.bind_eq_some_iff.mp H
  obtain ⟨t263, A40, H⟩ := H
  replace H : (if t263 = true then (if (a0.size : Int) > 200 then (sprlaw10_FormOne.j0 k a0 a1 a2 true) else (if (a1.size : Int) > 200 then (sprlaw10_FormOne.j0 k a0 a1 a2 true) else (if a2 < 0 then (sprlaw10_FormOne.j0 k a0 a1 a2 true) else (if a2 > 50 then (sprlaw10_FormOne.j0 k a0 a1 a2 true) else ((sprlaw10_utf.f k (([(⟨a0, a1⟩ : S33)] : List (S33)))).bind fun t267 => (sprlaw10_FormOne.j0 k a0 a1 a2 (!t267))))))) else (some false)) = some r := H
  have A4 := Aside0.mk A40
  clear A40
  by_cases c5 : t263 = true
  · subst c5
    have H1 : (if (a0.size : Int) > 200 then (sprlaw10_FormOne.j0 k a0 a1 a2 true) else (if (a1.size : Int) > 200 then (sprlaw10_FormOne.j0 k a0 a1 a2 true) else (if a2 < 0 then (sprlaw10_FormOne.j0 k a0 a1 a2 true) else (if a2 > 50 then (sprlaw10_FormOne.j0 k a0 a1 a2 true) else ((sprlaw10_utf.f k (([(⟨a0, a1⟩ : S33)] : List (S33)))).bind fun t267 => (sprlaw10_FormOne.j0 k a0 a1 a2 (!t267))))))) = some r := by rw [if_pos rfl] at H; exact H
    clear H
    have H := H1
    clear H1
    have HC6 := Aside0.mk H
    clear H
    go_enter Tryd.func5, Tryd.ntmps5
    go_upto_region 3 with (first | ((with_reducible refine gate_callee (f := 7) rfl ?_); refine goesL_ (some 15) rfl rfl Tryd.func7 (by kernel_rfl) rfl #[] rfl (by (try simp only [List.map_toArray, List.map_cons, List.map_nil]); first | done | rfl | (simp only [List.length_drop, List.length_take]; rfl)) ?_; (with_reducible refine (sprlaw10_first.calls k  true _ A4.out (tab_below HT0.out (by repeat (first | (with_reducible first | exact HB.out | apply below_alloc | apply pw_below_drewN | apply below_drew1) | exact HB.out)))).mono ?_); rintro e w7 ⟨rfl, hb⟩; refine ⟨_, rfl, ?_⟩; have n0_ := Aside0.mk (below_step (by repeat (first | (with_reducible first | exact HB.out | apply below_alloc | apply pw_below_drewN | apply below_drew1) | exact HB.out)) hb); clear HB; have HB := n0_; clear n0_; (try clear hb); (try clear hb2); (try clear hk); (try clear hi)))
    (try simp only [Act.put, List.setIfInBounds_toArray, List.set_cons_zero, List.set_cons_succ])
    go_cut [40] (fun v40 wc => ∃ (kq : Nat) (x40_5 : Bool), v40 = .bool x40_5 ∧ Aside0 (sprlaw10_FormOne.j0 kq a0 a1 a2 x40_5 = some r) ∧ Aside0 (kq ≤ k) ∧ Aside0 (Below w.heap.size w wc))
    case first =>
      have H := HC6.out
      clear HC6
      by_cases c8 : (a0.size : Int) > 200
      · rw [if_pos c8] at H
        have c8b0 : decide (200 < (a0.size : Int)) = true := decide_eq_true c8
        have c8b1 : decide (200 < a0.size) = true := decide_eq_true (by omega)
        clear c8
        (first | rw [c8b0] | (simp only [i64_w, i32_w]; rw [c8b0]) | skip)
        have H' := Aside0.mk H
        clear H
        go_wp2
        go_meet
        case rel => exact ⟨_, (true), (by first | rfl | (simp; done) | (simp [*]; done)), H', ⟨by first | omega | exact Nat.le_refl _⟩, ⟨by repeat (first | (with_reducible first | exact HB.out | apply below_alloc | apply pw_below_drewN | apply below_drew1) | exact HB.out)⟩⟩
      · rw [if_neg c8] at H
        have c8b0 : decide (200 < (a0.size : Int)) = false := decide_eq_false c8
        have c8b1 : decide (200 < a0.size) = false := decide_eq_false (by omega)
        clear c8
        (first | rw [c8b0] | (simp only [i64_w, i32_w]; rw [c8b0]) | skip)
        by_cases c9 : (a1.size : Int) > 200
        · rw [if_pos c9] at H
          have c9b0 : decide (200 < (a1.size : Int)) = true := decide_eq_true c9
          have c9b1 : decide (200 < a1.size) = true := decide_eq_true (by omega)
          clear c9
          have H' := Aside0.mk H
          clear H
          go_wp2
          go_meet
          case rel => exact ⟨_, (true), (by first | rfl | (simp; done) | (simp [*]; done)), H', ⟨by first | omega | exact Nat.le_refl _⟩, ⟨by repeat (first | (with_reducible first | exact HB.out | apply below_alloc | apply pw_below_drewN | apply below_drew1) | exact HB.out)⟩⟩
        · rw [if_neg c9] at H
          have c9b0 : decide (200 < (a1.size : Int)) = false := decide_eq_false c9
          have c9b1 : decide (200 < a1.size) = false := decide_eq_false (by omega)
          clear c9
          by_cases c10 : a2 < 0
          · rw [if_pos c10] at H
            have c10b0 : decide (a2 < 0) = true := decide_eq_true c10
            clear c10
            have H' := Aside0.mk H
            clear H
            go_wp2
            go_meet
            case rel => exact ⟨_, (true), (by first | rfl | (simp; done) | (simp [*]; done)), H', ⟨by first | omega | exact Nat.le_refl _⟩, ⟨by repeat (first | (with_reducible first | exact HB.out | apply below_alloc | apply pw_below_drewN | apply below_drew1) | exact HB.out)⟩⟩
          · rw [if_neg c10] at H
            have c10b0 : decide (a2 < 0) = false := decide_eq_false c10
            clear c10
            by_cases c11 : a2 > 50
            · rw [if_pos c11] at H
              have c11b0 : decide (50 < a2) = true := decide_eq_true c11
              clear c11
              have H' := Aside0.mk H
              clear H
              go_wp2
              go_meet
              case rel => exact ⟨_, (true), (by first | rfl | (simp; done) | (simp [*]; done)), H', ⟨by first | omega | exact Nat.le_refl _⟩, ⟨by repeat (first | (with_reducible first | exact HB.out | apply below_alloc | apply pw_below_drewN | apply below_drew1) | exact HB.out)⟩⟩
            · rw [if_neg c11] at H
              have c11b0 : decide (50 < a2) = false := decide_eq_false c11
              clear c11
              obtain ⟨y264, hy264⟩ : ∃ y_ : List (S33), y_ = (([(⟨a0, a1⟩ : S33)] : List (S33))) := ⟨_, rfl⟩
              replace H : ((sprlaw10_utf.f k y264).bind fun t267 => (sprlaw10_FormOne.j0 k a0 a1 a2 (!t267))) = some r := by first | (rw [hy264]; with_reducible exact H) | (have H2_ := (Option.bind_some _ _).symm.trans H; rw [hy264]; with_reducible exact H2_) | (have H2_ := (Option.bind_some _ _).symm.trans H; with_reducible exact H2_) | with_reducible exact H | (rw [hy264]; exact H) | exact H
              have Ny264 := Aside0.mk hy264
              clear hy264
              replace H := Option.bind_eq_some_iff.mp H
              obtain ⟨t267, A120, H⟩ := H
              replace H : (sprlaw10_FormOne.j0 k a0 a1 a2 (!t267)) = some r := H
              have A12 := Aside0.mk A120
              clear A120
              have H' := Aside0.mk H
              clear H
              go_wp2_with (first | ((with_reducible refine gate_dst (N := 37) rfl ?_); (try (refine gate_guard (by rfl) ?_; dsimp only)); refine Kd.R_lit k33 _ 33 ?hg (N := 37) ?hd (xs := ([(⟨a0, a1⟩ : S33)] : List (S33))) (inner := [.string a0, .string a1]) (ok := fun _ => True) (okp := fun _ => True) ?hr ?hp (fun _ hk => hk) trivial (Below.refl _ _) (Nat.le_refl _) (by simp) ?_; (case hd => rfl); (case hg => rfl); (case hr => first | (go_simp; done) | (go_simp; rfl)); (case hp => exact (Reps.c2 (show Kd.M k33 _ _ _ (⟨a0, a1⟩ : S33) [.string a0, .string a1] from (k33_mkM _ _ _ (⟨a0, a1⟩ : S33) )) (Reps.none _ _))); intro v265 w13 ho14 hb hg_ hnew_; clear hg_ hnew_; (first | rw [← Ny264.out] at ho14 | (simp only [Int.reduceToNat] at ho14; rw [← Ny264.out] at ho14)); have n0_ := Aside0.mk (Kd.R_lower ho14 (below_size (by repeat (first | (with_reducible first | exact HB.out | apply below_alloc | apply pw_below_drewN | apply below_drew1) | exact HB.out)))); have n1_ := Aside0.mk (below_step (by repeat (first | (with_reducible first | exact HB.out | apply below_alloc | apply pw_below_drewN | apply below_drew1) | exact HB.out)) hb); clear HB; have HO266 := n0_; have HB := n1_; clear n0_ n1_; clear hb ho14; obtain ⟨Ao15, co15, eo15⟩ := Kd.R_slice HO266.out; subst eo15) | (go_at_call 12; (with_reducible refine (sprlaw10_utf.calls k _ _ y264 t267 _ ?side1 ?side2 A12.out).mono ?_); (case side1 => repeat (first | exact (Kd.R_reads' HO266.out).2.2 | (with_reducible refine Kd.C_alloc ?_ _) | (with_reducible refine Kd.C_drewN ?_ _) | (with_reducible refine Kd.C_drew ?_))); (case side2 => exact (Kd.R_reads' HO266.out).2.1); rintro e w16 ⟨rfl, hb⟩; have n0_ := Aside0.mk (Kd.R_below (by (with_reducible repeat (first | apply Kd.R_alloc | apply Kd.R_drewN | apply Kd.R_drew)); exact HO266.out) hb); have n1_ := Aside0.mk (below_step (by repeat (first | (with_reducible first | exact HB.out | apply below_alloc | apply pw_below_drewN | apply below_drew1) | exact HB.out)) hb); clear HO266; clear HB; have HO266 := n0_; have HB := n1_; clear n0_ n1_; (try clear hb); (try clear hb2); (try clear hk); (try clear hi)))
              go_meet
              case rel => exact ⟨_, (!t267), (by first | rfl | (simp; done) | (simp [*]; done)), H', ⟨by first | omega | exact Nat.le_refl _⟩, ⟨by repeat (first | (with_reducible first | exact HB.out | apply below_alloc | apply pw_below_drewN | apply below_drew1) | exact HB.out)⟩⟩
    case rest =>
      clear HC6
      try clear c1
      try clear c2
      try clear p2
      try clear c5
      try clear c7
      try clear c8
      try clear c8b0
      try clear c8b1
      try clear c9
      try clear c9b0
      try clear c9b1
      try clear c10
      try clear c10b0
      try clear c11
      try clear c11b0
      obtain ⟨kq, x40_5, rfl, HA, HJ5, HB⟩ := hcut
      cases kq with
      | zero => exact absurd HA.out (by simp [sprlaw10_FormOne.j0])
      | succ kj5 =>
        have H := HA.out
        clear HA
        simp only [sprlaw10_FormOne.j0] at H
        by_cases c17 : x40_5 = true
        · subst c17
          have H1 : ((sprlaw10_first.f kj5).bind fun t268 => (some t268)) = some r := by rw [if_pos rfl] at H; exact H
          clear H
          have H := H1
          clear H1
          replace H := Option.bind_eq_some_iff.mp H
          obtain ⟨t268, A180, H⟩ := H
          replace H : (some t268) = some r := H
          have A18 := Aside0.mk A180
          clear A180
          obtain rfl := Option.some.inj H
          go_wp2_with (first | ((with_reducible refine gate_callee (f := 7) rfl ?_); refine goesL_ (some 41) rfl rfl Tryd.func7 (by kernel_rfl) rfl #[] rfl (by (try simp only [List.map_toArray, List.map_cons, List.map_nil]); first | done | rfl | (simp only [List.length_drop, List.length_take]; rfl)) ?_; (with_reducible refine (sprlaw10_first.calls kj5  t268 _ A18.out (tab_below HT0.out (by repeat (first | (with_reducible first | exact HB.out | apply below_alloc | apply pw_below_drewN | apply below_drew1) | exact HB.out)))).mono ?_); rintro e w19 ⟨rfl, hb⟩; refine ⟨_, rfl, ?_⟩; have n0_ := Aside0.mk (below_step (by repeat (first | (with_reducible first | exact HB.out | apply below_alloc | apply pw_below_drewN | apply below_drew1) | exact HB.out)) hb); clear HB; have HB := n0_; clear n0_; (try clear hb); (try clear hb2); (try clear hk); (try clear hi)))
          go_ret
          exact ⟨by first | rfl | (simp [errW_none, errW_some] <;> rfl) | (simp [*, errW_none, errW_some] <;> rfl), by repeat (first | (with_reducible first | exact HB.out | apply below_alloc | apply pw_below_drewN | apply below_drew1) | exact HB.out)⟩
        · replace c17 := Bool.eq_false_iff.mpr c17
          subst c17
          have H1 : (if a0.size + 5 ≤ 9223372036854775807 then (if a1.size + 5 ≤ 9223372036854775807 then ((some (([(⟨a0 ++ (⟨#[37, 32, 43, 38, 61]⟩ : ByteArray), a1 ++ (⟨#[43, 37, 52, 49, 32]⟩ : ByteArray)⟩ : S33)] : List (S33)) : List (S33))).bind fun y269 => ((query_Print.f kj5 y269).bind fun t272 => (sprlaw10_FormOne.l0 kj5 a2 y269 t272 (⟨#[]⟩ : ByteArray) 0))) else (none)) else (none)) = some r := by rw [if_neg (show ¬ (false = true) by decide)] at H; exact H
          clear H
          have H := H1
          clear H1
          by_cases c20 : a0.size + 5 ≤ 9223372036854775807
          · rw [if_pos c20] at H
            have c20b0 := eq_true c20
            have c20b1 : decide (a0.size + 5 ≤ 9223372036854775807) = true := decide_eq_true c20
            try have c20b2 : (9223372036854775807 < a0.size + 5) = False := eq_false (Nat.not_lt.2 c20)
            by_cases c21 : a1.size + 5 ≤ 9223372036854775807
            · rw [if_pos c21] at H
              have c21b0 := eq_true c21
              have c21b1 : decide (a1.size + 5 ≤ 9223372036854775807) = true := decide_eq_true c21
              try have c21b2 : (9223372036854775807 < a1.size + 5) = False := eq_false (Nat.not_lt.2 c21)
              obtain ⟨y269, hy269⟩ : ∃ y_ : List (S33), y_ = (([(⟨a0 ++ (⟨#[37, 32, 43, 38, 61]⟩ : ByteArray), a1 ++ (⟨#[43, 37, 52, 49, 32]⟩ : ByteArray)⟩ : S33)] : List (S33))) := ⟨_, rfl⟩
              replace H : ((query_Print.f kj5 y269).bind fun t272 => (sprlaw10_FormOne.l0 kj5 a2 y269 t272 (⟨#[]⟩ : ByteArray) 0)) = some r := by first | (rw [hy269]; with_reducible exact H) | (have H2_ := (Option.bind_some _ _).symm.trans H; rw [hy269]; with_reducible exact H2_) | (have H2_ := (Option.bind_some _ _).symm.trans H; with_reducible exact H2_) | with_reducible exact H | (rw [hy269]; exact H) | exact H
              have Ny269 := Aside0.mk hy269
              clear hy269
              replace H := Option.bind_eq_some_iff.mp H
              obtain ⟨t272, A220, H⟩ := H
              replace H : (sprlaw10_FormOne.l0 kj5 a2 y269 t272 (⟨#[]⟩ : ByteArray) 0) = some r := H
              have A22 := Aside0.mk A220
              clear A220
              have H' := Aside0.mk H
              clear H
              go_wp2_with (first | ((with_reducible refine gate_dst (N := 47) rfl ?_); (try (refine gate_guard (by rfl) ?_; dsimp only)); refine Kd.R_lit k33 _ 33 ?hg (N := 47) ?hd (xs := ([(⟨a0 ++ (⟨#[37, 32, 43, 38, 61]⟩ : ByteArray), a1 ++ (⟨#[43, 37, 52, 49, 32]⟩ : ByteArray)⟩ : S33)] : List (S33))) (inner := [.string (a0 ++ (⟨#[37, 32, 43, 38, 61]⟩ : ByteArray)), .string (a1 ++ (⟨#[43, 37, 52, 49, 32]⟩ : ByteArray))]) (ok := fun _ => True) (okp := fun _ => True) ?hr ?hp (fun _ hk => hk) trivial (Below.refl _ _) (Nat.le_refl _) (by simp) ?_; (case hd => rfl); (case hg => rfl); (case hr => first | (go_simp; done) | (go_simp; rfl)); (case hp => exact (Reps.c2 (show Kd.M k33 _ _ _ (⟨a0 ++ (⟨#[37, 32, 43, 38, 61]⟩ : ByteArray), a1 ++ (⟨#[43, 37, 52, 49, 32]⟩ : ByteArray)⟩ : S33) [.string (a0 ++ (⟨#[37, 32, 43, 38, 61]⟩ : ByteArray)), .string (a1 ++ (⟨#[43, 37, 52, 49, 32]⟩ : ByteArray))] from (k33_mkM _ _ _ (⟨a0 ++ (⟨#[37, 32, 43, 38, 61]⟩ : ByteArray), a1 ++ (⟨#[43, 37, 52, 49, 32]⟩ : ByteArray)⟩ : S33) )) (Reps.none _ _))); intro v270 w23 ho24 hb hg_ hnew_; clear hg_ hnew_; (first | rw [← Ny269.out] at ho24 | (simp only [Int.reduceToNat] at ho24; rw [← Ny269.out] at ho24)); have n0_ := Aside0.mk (Kd.R_lower ho24 (below_size (by repeat (first | (with_reducible first | exact HB.out | apply below_alloc | apply pw_below_drewN | apply below_drew1) | exact HB.out)))); have n1_ := Aside0.mk (below_step (by repeat (first | (with_reducible first | exact HB.out | apply below_alloc | apply pw_below_drewN | apply below_drew1) | exact HB.out)) hb); clear HB; have HO271 := n0_; have HB := n1_; clear n0_ n1_; clear hb ho24; obtain ⟨Ao25, co25, eo25⟩ := Kd.R_slice HO271.out; subst eo25) | ((with_reducible refine gate_callee (f := 11) rfl ?_); refine goesL_ (some 49) rfl rfl Tryd.func11 (by kernel_rfl) rfl #[.slice Ao25 y269.length co25] rfl (by (try simp only [List.map_toArray, List.map_cons, List.map_nil]); first | done | rfl | (simp only [List.length_drop, List.length_take]; rfl)) ?_; (with_reducible refine (query_Print.calls kj5 _ _ y269 t272 _ ?side1 ?side2 A22.out).mono ?_); (case side1 => repeat (first | exact (Kd.R_reads' HO271.out).2.2 | (with_reducible refine Kd.C_alloc ?_ _) | (with_reducible refine Kd.C_drewN ?_ _) | (with_reducible refine Kd.C_drew ?_))); (case side2 => exact (Kd.R_reads' HO271.out).2.1); rintro e w26 ⟨rfl, hb⟩; refine ⟨_, rfl, ?_⟩; have n0_ := Aside0.mk (Kd.R_below (by (with_reducible repeat (first | apply Kd.R_alloc | apply Kd.R_drewN | apply Kd.R_drew)); exact HO271.out) hb); have n1_ := Aside0.mk (below_step (by repeat (first | (with_reducible first | exact HB.out | apply below_alloc | apply pw_below_drewN | apply below_drew1) | exact HB.out)) hb); clear HO271; clear HB; have HO271 := n0_; have HB := n1_; clear n0_ n1_; (try clear hb); (try clear hb2); (try clear hk); (try clear hi)))
              go_loopg [9, 10] kj5 (fun kq v9 v10 w' => ∃ (x9_2 : ByteArray) (x10_2 : Int), v9 = .string x9_2 ∧ v10 = .int .i64 x10_2 ∧ Aside0 (sprlaw10_FormOne.l0 kq a2 y269 t272 x9_2 x10_2 = some r) ∧ Aside0 (kq ≤ kj5) ∧ Aside0 (Kd.R k33 33 w' w.heap.size (fun _ => True) (.slice Ao25 y269.length co25) y269) ∧ Aside0 (Below w.heap.size w w'))
              case atStart => exact ⟨((⟨#[]⟩ : ByteArray)), (0), (by first | rfl | (simp; done) | (simp [*]; done)), (by first | rfl | (simp; done) | (simp [*]; done)), H', ⟨Nat.le_refl _⟩, ⟨by (with_reducible repeat (first | apply Kd.R_alloc | apply Kd.R_drewN | apply Kd.R_drew)); exact HO271.out⟩, ⟨by repeat (first | (with_reducible first | exact HB.out | apply below_alloc | apply pw_below_drewN | apply below_drew1) | exact HB.out)⟩⟩
              case round =>
                clear H'
                try clear c1
                try clear c2
                try clear p2
                try clear c5
                try clear c7
                try clear c8
                try clear c8b0
                try clear c8b1
                try clear c9
                try clear c9b0
                try clear c9b1
                try clear c10
                try clear c10b0
                try clear c11
                try clear c11b0
                try clear c17
                try clear c20
                try clear c20b0
                try clear c20b1
                try clear c20b2
                try clear c21
                try clear c21b0
                try clear c21b1
                try clear c21b2
                try clear p2
                obtain ⟨x9_2, x10_2, rfl, rfl, HA, HK2, HO_7, HB⟩ := hrel
                cases gk with
                | zero => exact absurd HA.out (by simp [sprlaw10_FormOne.l0])
                | succ k2 =>
                  have H := HA.out
                  clear HA
                  simp only [sprlaw10_FormOne.l0] at H
                  by_cases c27 : x10_2 < a2
                  · rw [if_pos c27] at H
                    have c27b0 : decide (x10_2 < a2) = true := decide_eq_true c27
                    clear c27
                    by_cases c28 : x9_2.size + 1 ≤ 9223372036854775807
                    · rw [if_pos c28] at H
                      have c28b0 := eq_true c28
                      have c28b1 : decide (x9_2.size + 1 ≤ 9223372036854775807) = true := decide_eq_true c28
                      try have c28b2 : (9223372036854775807 < x9_2.size + 1) = False := eq_false (Nat.not_lt.2 c28)
                      have H' := Aside0.mk H
                      clear H
                      go_wp2
                      go_roundg k2
                      case measure => have := HJ5.out; have := HK2.out; omega
                      case rel => exact ⟨(x9_2 ++ (⟨#[38]⟩ : ByteArray)), (wrap64 (x10_2 + 1)), (by first | rfl | (simp; done) | (simp [*]; done)), (by first | rfl | (simp; done) | (simp [*]; done)), H', ⟨by have := HJ5.out; have := HK2.out; omega⟩, ⟨by (with_reducible repeat (first | apply Kd.R_alloc | apply Kd.R_drewN | apply Kd.R_drew)); exact HO_7.out⟩, ⟨by repeat (first | (with_reducible first | exact HB.out | apply below_alloc | apply pw_below_drewN | apply below_drew1) | exact HB.out)⟩⟩
                    · rw [if_neg c28] at H
                      exact absurd H (by simp)
                  · rw [if_neg c27] at H
                    have c27b0 : decide (x10_2 < a2) = false := decide_eq_false c27
                    clear c27
                    by_cases c29 : x9_2.size + t272.size ≤ 9223372036854775807
                    · rw [if_pos c29] at H
                      have c29b0 := eq_true c29
                      have c29b1 : decide (x9_2.size + t272.size ≤ 9223372036854775807) = true := decide_eq_true c29
                      try have c29b2 : (9223372036854775807 < x9_2.size + t272.size) = False := eq_false (Nat.not_lt.2 c29)
                      by_cases c30 : (x9_2 ++ t272).size + x9_2.size ≤ 9223372036854775807
                      · rw [if_pos c30] at H
                        have c30b0 := eq_true c30
                        have c30b1 : decide ((x9_2 ++ t272).size + x9_2.size ≤ 9223372036854775807) = true := decide_eq_true c30
                        try have c30b2 : (9223372036854775807 < (x9_2 ++ t272).size + x9_2.size) = False := eq_false (Nat.not_lt.2 c30)
                        (try (have c30y : (9223372036854775807 < x9_2.size + t272.size + x9_2.size) = False := eq_false (by have zz := c30; simp only [ByteArray.size_append, ByteArray.size_extract, Nat.sub_zero] at zz; omega)))
                        (try (have c30s := c30; simp [go_sem] at c30s)); (try (have c30z := eq_false (Nat.not_lt.2 c30s)))
                        replace H := Option.bind_eq_some_iff.mp H
                        obtain ⟨⟨t273, t274⟩, A310, H⟩ := H
                        replace H : ((query_Parse.f k2 x9_2).bind fun bt277 => ((sprlaw10_first.f k2).bind fun t281 => (if t281 = true then (if t274 = 0 then ((sprref_Pairs.f k2 t273 y269).bind fun t282 => (if t282 = true then (if bt277.2 = 0 then (some ((bt277.1.length : Int) == 0)) else (some false)) else (some false))) else (some false)) else (some false)))) = some r := H
                        have A31 := Aside0.mk A310
                        clear A310
                        replace H := Option.bind_eq_some_iff.mp H
                        obtain ⟨⟨t277, t278⟩, A320, H⟩ := H
                        replace H : ((sprlaw10_first.f k2).bind fun t281 => (if t281 = true then (if t274 = 0 then ((sprref_Pairs.f k2 t273 y269).bind fun t282 => (if t282 = true then (if t278 = 0 then (some ((t277.length : Int) == 0)) else (some false)) else (some false))) else (some false)) else (some false))) = some r := H
                        have A32 := Aside0.mk A320
                        clear A320
                        replace H := Option.bind_eq_some_iff.mp H
                        obtain ⟨t281, A330, H⟩ := H
                        replace H : (if t281 = true then (if t274 = 0 then ((sprref_Pairs.f k2 t273 y269).bind fun t282 => (if t282 = true then (if t278 = 0 then (some ((t277.length : Int) == 0)) else (some false)) else (some false))) else (some false)) else (some false)) = some r := H
                        have A33 := Aside0.mk A330
                        clear A330
                        by_cases c34 : t281 = true
                        · subst c34
                          have H1 : (if t274 = 0 then ((sprref_Pairs.f k2 t273 y269).bind fun t282 => (if t282 = true then (if t278 = 0 then (some ((t277.length : Int) == 0)) else (some false)) else (some false))) else (some false)) = some r := by rw [if_pos rfl] at H; exact H
                          clear H
                          have H := H1
                          clear H1
                          by_cases c35 : t274 = 0
                          · rw [if_pos c35] at H
                            have c35b0 : (t274 == 0) = true := beq_iff_eq.mpr c35
                            have c35b1 : (t274 != 0) = false := bne_eq_false_iff_eq.mpr c35
                            clear c35
                            replace H := Option.bind_eq_some_iff.mp H
                            obtain ⟨t282, A360, H⟩ := H
                            replace H : (if t282 = true then (if t278 = 0 then (some ((t277.length : Int) == 0)) else (some false)) else (some false)) = some r := H
                            have A36 := Aside0.mk A360
                            clear A360
                            by_cases c37 : t282 = true
                            · subst c37
                              have H1 : (if t278 = 0 then (some ((t277.length : Int) == 0)) else (some false)) = some r := by rw [if_pos rfl] at H; exact H
                              clear H
                              have H := H1
                              clear H1
                              by_cases c38 : t278 = 0
                              · rw [if_pos c38] at H
                                have c38b0 : (t278 == 0) = true := beq_iff_eq.mpr c38
                                have c38b1 : (t278 != 0) = false := bne_eq_false_iff_eq.mpr c38
                                clear c38
                                obtain rfl := Option.some.inj H
                                go_wp2_with (first | ((with_reducible refine gate_callee (f := 8) rfl ?_); refine goesL_ (some 63) rfl rfl Tryd.func8 (by kernel_rfl) rfl #[.string ((x9_2 ++ t272) ++ x9_2)] rfl (by (try simp only [List.map_toArray, List.map_cons, List.map_nil]); first | done | rfl | (simp only [List.length_drop, List.length_take]; rfl)) ?_; (with_reducible refine (query_Parse.calls k2 ((x9_2 ++ t272) ++ x9_2) t273 t274 _ A31.out (tab_below HT0.out (by repeat (first | (with_reducible first | exact HB.out | apply below_alloc | apply pw_below_drewN | apply below_drew1) | exact HB.out)))).mono ?_); rintro e w39 ⟨v275, rfl, ho0, hb⟩; refine ⟨_, rfl, ?_⟩; have n0_ := Aside0.mk (Kd.R_elder' (by (with_reducible repeat (first | apply Kd.R_alloc | apply Kd.R_drewN | apply Kd.R_drew)); exact HO_7.out) (Kd.R_base ho0) hb); have n1_ := Aside0.mk (Kd.R_lower (Kd.R_new' ho0 (Kd.R_lt (by (with_reducible repeat (first | apply Kd.R_alloc | apply Kd.R_drewN | apply Kd.R_drew)); exact HO_7.out))) (below_size (by repeat (first | (with_reducible first | exact HB.out | apply below_alloc | apply pw_below_drewN | apply below_drew1) | exact HB.out)))); have n2_ := Aside0.mk (below_step (by repeat (first | (with_reducible first | exact HB.out | apply below_alloc | apply pw_below_drewN | apply below_drew1) | exact HB.out)) hb); clear HO_7; clear HB; have HO_7 := n0_; have HO276 := n1_; have HB := n2_; clear n0_ n1_ n2_; (try clear hb); (try clear hb2); (try clear hk); (try clear hi); (try clear ho0)) | ((with_reducible refine gate_callee (f := 8) rfl ?_); refine goesL_ (some 68) rfl rfl Tryd.func8 (by kernel_rfl) rfl #[.string x9_2] rfl (by (try simp only [List.map_toArray, List.map_cons, List.map_nil]); first | done | rfl | (simp only [List.length_drop, List.length_take]; rfl)) ?_; (with_reducible refine (query_Parse.calls k2 x9_2 t277 t278 _ A32.out (tab_below HT0.out (by repeat (first | (with_reducible first | exact HB.out | apply below_alloc | apply pw_below_drewN | apply below_drew1) | exact HB.out)))).mono ?_); rintro e w40 ⟨v279, rfl, ho0, hb⟩; refine ⟨_, rfl, ?_⟩; have n0_ := Aside0.mk (Kd.R_elder' (by (with_reducible repeat (first | apply Kd.R_alloc | apply Kd.R_drewN | apply Kd.R_drew)); exact HO_7.out) (Kd.R_base ho0) hb); have n1_ := Aside0.mk (Kd.R_elder' (by (with_reducible repeat (first | apply Kd.R_alloc | apply Kd.R_drewN | apply Kd.R_drew)); exact HO276.out) (Kd.R_base ho0) hb); have n2_ := Aside0.mk (Kd.R_lower (Kd.R_new' (Kd.R_new' ho0 (Kd.R_lt (by (with_reducible repeat (first | apply Kd.R_alloc | apply Kd.R_drewN | apply Kd.R_drew)); exact HO_7.out))) (Kd.R_lt (by (with_reducible repeat (first | apply Kd.R_alloc | apply Kd.R_drewN | apply Kd.R_drew)); exact HO276.out))) (below_size (by repeat (first | (with_reducible first | exact HB.out | apply below_alloc | apply pw_below_drewN | apply below_drew1) | exact HB.out)))); have n3_ := Aside0.mk (below_step (by repeat (first | (with_reducible first | exact HB.out | apply below_alloc | apply pw_below_drewN | apply below_drew1) | exact HB.out)) hb); clear HO_7; clear HO276; clear HB; have HO_7 := n0_; have HO276 := n1_; have HO280 := n2_; have HB := n3_; clear n0_ n1_ n2_ n3_; (try clear hb); (try clear hb2); (try clear hk); (try clear hi); (try clear ho0)) | ((with_reducible refine gate_callee (f := 7) rfl ?_); refine goesL_ (some 71) rfl rfl Tryd.func7 (by kernel_rfl) rfl #[] rfl (by (try simp only [List.map_toArray, List.map_cons, List.map_nil]); first | done | rfl | (simp only [List.length_drop, List.length_take]; rfl)) ?_; (with_reducible refine (sprlaw10_first.calls k2  true _ A33.out (tab_below HT0.out (by repeat (first | (with_reducible first | exact HB.out | apply below_alloc | apply pw_below_drewN | apply below_drew1) | exact HB.out)))).mono ?_); rintro e w41 ⟨rfl, hb⟩; refine ⟨_, rfl, ?_⟩; have n0_ := Aside0.mk (Kd.R_below (by (with_reducible repeat (first | apply Kd.R_alloc | apply Kd.R_drewN | apply Kd.R_drew)); exact HO_7.out) hb); have n1_ := Aside0.mk (Kd.R_below (by (with_reducible repeat (first | apply Kd.R_alloc | apply Kd.R_drewN | apply Kd.R_drew)); exact HO276.out) hb); have n2_ := Aside0.mk (Kd.R_below (by (with_reducible repeat (first | apply Kd.R_alloc | apply Kd.R_drewN | apply Kd.R_drew)); exact HO280.out) hb); have n3_ := Aside0.mk (below_step (by repeat (first | (with_reducible first | exact HB.out | apply below_alloc | apply pw_below_drewN | apply below_drew1) | exact HB.out)) hb); clear HO_7; clear HO276; clear HO280; clear HB; have HO_7 := n0_; have HO276 := n1_; have HO280 := n2_; have HB := n3_; clear n0_ n1_ n2_ n3_; (try clear hb); (try clear hb2); (try clear hk); (try clear hi); obtain ⟨Ao42, co42, eo42⟩ := Kd.R_slice HO276.out; subst eo42) | (go_at_call 9; (with_reducible refine (sprref_Pairs.calls k2 _ _ t273 _ _ y269 true _ ?side1 ?side2 ?side3 ?side4 A36.out).mono ?_); (case side1 => repeat (first | exact (Kd.R_reads' HO276.out).2.2 | (with_reducible refine Kd.C_alloc ?_ _) | (with_reducible refine Kd.C_drewN ?_ _) | (with_reducible refine Kd.C_drew ?_))); (case side2 => exact (Kd.R_reads' HO276.out).2.1); (case side3 => repeat (first | exact (Kd.R_reads' HO_7.out).2.2 | (with_reducible refine Kd.C_alloc ?_ _) | (with_reducible refine Kd.C_drewN ?_ _) | (with_reducible refine Kd.C_drew ?_))); (case side4 => exact (Kd.R_reads' HO_7.out).2.1); rintro e w' ⟨rfl, ⟨nd, rfl⟩⟩; obtain ⟨Ao43, co43, eo43⟩ := Kd.R_slice HO280.out; subst eo43))
                                go_ret
                                exact ⟨by first | rfl | (simp [errW_none, errW_some] <;> rfl) | (simp [*, errW_none, errW_some] <;> rfl), by repeat (first | (with_reducible first | exact HB.out | apply below_alloc | apply pw_below_drewN | apply below_drew1) | exact HB.out)⟩
                              · rw [if_neg c38] at H
                                have c38b0 : (t278 == 0) = false := beq_eq_false_iff_ne.mpr c38
                                have c38b1 : (t278 != 0) = true := bne_iff_ne.mpr c38
                                exact absurd ((Option.some.inj H).trans hT.out) (by decide)
                            · replace c37 := Bool.eq_false_iff.mpr c37
                              subst c37
                              have H1 : (some false) = some r := by rw [if_neg (show ¬ (false = true) by decide)] at H; exact H
                              clear H
                              have H := H1
                              clear H1
                              exact absurd ((Option.some.inj H).trans hT.out) (by decide)
                          · rw [if_neg c35] at H
                            have c35b0 : (t274 == 0) = false := beq_eq_false_iff_ne.mpr c35
                            have c35b1 : (t274 != 0) = true := bne_iff_ne.mpr c35
                            exact absurd ((Option.some.inj H).trans hT.out) (by decide)
                        · replace c34 := Bool.eq_false_iff.mpr c34
                          subst c34
                          have H1 : (some false) = some r := by rw [if_neg (show ¬ (false = true) by decide)] at H; exact H
                          clear H
                          have H := H1
                          clear H1
                          exact absurd ((Option.some.inj H).trans hT.out) (by decide)
                      · rw [if_neg c30] at H
                        exact absurd H (by simp)
                    · rw [if_neg c29] at H
                      exact absurd H (by simp)
            · rw [if_neg c21] at H
              exact absurd H (by simp)
          · rw [if_neg c20] at H
            exact absurd H (by simp)
  · replace c5 := Bool.eq_false_iff.mpr c5
    subst c5
    have H1 : (some false) = some r := by rw [if_neg (show ¬ (false = true) by decide)] at H; exact H
    clear H
    have H := H1
    clear H1
    exact absurd ((Option.some.inj H).trans hT.out) (by decide)

/-- THE ONE PURE STATEMENT of sprlaw10_FormOne: yours. -/
def sprlaw10_FormOne.Pure : Prop := ∀ (a0 : ByteArray) (a1 : ByteArray) (a2 : Int), a0.size ≤ 140737488351232 → a1.size ≤ 140737488351232 → (Lit.int .i64 a2).wf = true → ∃ k, sprlaw10_FormOne.f k a0 a1 a2 = some true
theorem sprlaw10_FormOne.walk (P : sprlaw10_FormOne.Pure) (a0 : ByteArray) (a1 : ByteArray) (a2 : Int) (w : World) (hT0 : replW w) (w0 : a0.size ≤ 140737488351232) (w1 : a1.size ≤ 140737488351232) (w2 : (Lit.int .i64 a2).wf = true) :
    Calls Tryd.prog 5 #[.string a0, .string a1, .int .i64 a2] w fun e w' => e = .returned (.bool true) ∧ Below w.heap.size w w' := by
  obtain ⟨k, h⟩ := P a0 a1 a2 w0 w1 w2
  refine (sprlaw10_FormOne.calls k a0 a1 a2 true w h (Aside0.mk rfl) hT0).mono ?_
  rintro e w' ⟨rfl, hd⟩
  exact ⟨rfl, hd⟩

end Go.Proofs.YtkaegbamkdgjjaaDoor.R
