-- Written by a program of this session's (wip/xprint.py), out of the seat's translation.
import Derived.Test.YtkaegbamkdgjjaaDoorG0
import Derived.Test.YtkaegbamkdgjjaaDoorG2
import Derived.Test.YtkaegbamkdgjjaaDoorG3
import Derived.Test.YtkaegbamkdgjjaaDoorG5
import Derived.Test.YtkaegbamkdgjjaaDoorG8
import Derived.Test.YtkaegbamkdgjjaaDoorG11
import Derived.Test.YtkaegbamkdgjjaaDoorG12
import Derived.Test.YtkaegbamkdgjjaaDoorG13
namespace Go.Proofs.YtkaegbamkdgjjaaDoor.G
open Go.RowKit Go.Proofs.YtkaegbamkdgjjaaDoorW.PrintWords Go.Proofs.YtkaegbamkdgjjaaDoorW.PrintLast Go.Proofs.YtkaegbamkdgjjaaDoorW.PrintMore
attribute [local go_sem] max2_int min2_int max_two min_two max_three min_three max_four min_four   -- for this text's walks alone
set_option linter.unusedVariables false
set_option linter.unusedSimpArgs false

/-! ### sprref7_Names: function 17 -/
def sprref7_Names.l0 : Nat → List (S33) → List ByteArray → Int → Option (List ByteArray)
  | 0, _, _, _ => none
  | k + 1, x0, x3, x4 => if x4 < (x0.length : Int) then (if 0 ≤ x4 then (if x3.length < 8796093022208 then (sprref7_Names.l0 k x0 (x3 ++ [(rd_T33 x0 x4).f0]) (wrap64 (x4 + 1))) else (none)) else (none)) else ((sprref_Unique.f x3).bind fun t346 => (some t346))
def sprref7_Names.f (k : Nat) (l0 : List (S33)) : Option (List ByteArray) := sprref7_Names.l0 k l0 ([] : List ByteArray) 0
theorem sprref7_Names.mono_l : ∀ k, (∀ y0 y1 y2, LeO (sprref7_Names.l0 k y0 y1 y2) (sprref7_Names.l0 (k + 1) y0 y1 y2))
  | 0 => fun _ _ _ r h => by simp [sprref7_Names.l0] at h
  | k + 1 => by
    have ih0 := sprref7_Names.mono_l k
    · intro y0 y1 y2
      unfold sprref7_Names.l0
      repeat' first
      | (with_reducible exact ih0 _ _ _)
      | (with_reducible exact LeO.refl _)
      | (with_reducible exact LeO.none _)
      | (with_reducible refine LeO.ite ?_ ?_)
      | (with_reducible refine LeO.bind ?_ (fun _ => ?_))
      | exact ih0 _ _ _
      | exact LeO.none _
      | refine LeO.ite ?_ ?_
      | refine LeO.bind ?_ (fun _ => ?_)
theorem sprref7_Names.mono : ∀ a0 k, LeO (sprref7_Names.f k a0) (sprref7_Names.f (k + 1) a0) := by
  intro a0 k
  have ih0 := sprref7_Names.mono_l k
  unfold sprref7_Names.f
  repeat' first
      | (with_reducible exact ih0 _ _ _)
      | (with_reducible exact LeO.refl _)
      | (with_reducible exact LeO.none _)
      | (with_reducible refine LeO.ite ?_ ?_)
      | (with_reducible refine LeO.bind ?_ (fun _ => ?_))
      | exact ih0 _ _ _
      | exact LeO.none _
      | refine LeO.ite ?_ ?_
      | refine LeO.bind ?_ (fun _ => ?_)
set_option maxHeartbeats 2000000 in
set_option maxRecDepth 100000 in
theorem sprref7_Names.calls (k : Nat) (A0 : Option Addr) (c0 : Nat) (l0 : List (S33)) (r : List ByteArray) (w : World) (hr0 : Kd.C k33 w A0 l0.length l0) (hc0 : l0.length ≤ c0) (h : sprref7_Names.f k l0 = some r) :
    Calls Tryd.prog 17 #[.slice A0 l0.length c0] w fun e w' => ∃ v0_ : Value, e = .returned (v0_) ∧ Kd.R Kd.string 9 w' w.heap.size (fun _ => True) v0_ r ∧ Below w.heap.size w w' := by
  have HR0 := Aside0.mk hr0
  have HC0 := Aside0.mk hc0
  clear hr0 hc0
  have HB := Aside0.mk (Below.refl w.heap.size w)
  have H : (sprref7_Names.l0 k l0 ([] : List ByteArray) 0) = some r := h
  clear h
  have H' := Aside0.mk H
  clear H
  go_enter Tryd.func17, Tryd.ntmps17
  go_wp2
  go_loopg [3, 4] k (fun kq v3 v4 w' => ∃ (x3_1 : List ByteArray) (x4_1 : Int), v4 = .int .i64 x4_1 ∧ Aside0 (sprref7_Names.l0 kq l0 x3_1 x4_1 = some r) ∧ Aside0 (kq ≤ k) ∧ Aside0 (Kd.R Kd.string 9 w' w.heap.size (fun _ => True) v3 x3_1) ∧ Aside0 (Below w.heap.size w w'))
  case atStart => exact ⟨(([] : List ByteArray)), (0), (by first | rfl | (simp; done) | (simp [*]; done)), H', ⟨Nat.le_refl _⟩, ⟨by first | exact Kd.R_nil _ _ _ _ _ | exact Kd.N_nil _ _ _ _ _ | exact Kd.V_nil _ _ _ _ _ | exact Kd.Q_nil _ _ _ _ _ | exact Kd.S_nil _ _ _ _ _⟩, ⟨by repeat (first | (with_reducible first | exact HB.out | apply below_alloc | apply pw_below_drewN | apply below_drew1) | exact HB.out)⟩⟩
  case round =>
    clear H'
    try clear c1
    obtain ⟨x3_1, x4_1, rfl, HA, HK1, HO_3, HB⟩ := hrel
    cases gk with
    | zero => exact absurd HA.out (by simp [sprref7_Names.l0])
    | succ k1 =>
      have H := HA.out
      clear HA
      simp only [sprref7_Names.l0] at H
      by_cases c2 : x4_1 < (l0.length : Int)
      · rw [if_pos c2] at H
        have c2b0 : decide (x4_1 < (l0.length : Int)) = true := decide_eq_true c2
        clear c2
        by_cases c3 : 0 ≤ x4_1
        · rw [if_pos c3] at H
          have c3b0 : decide (0 ≤ x4_1) = true := decide_eq_true c3
          clear c3
          by_cases c4 : x3_1.length < 8796093022208
          · rw [if_pos c4] at H
            have LMc4 := Aside0.mk c4
            clear c4
            obtain ⟨y343, hy343⟩ : ∃ y_ : List ByteArray, y_ = (x3_1 ++ [(rd_T33 l0 x4_1).f0]) := ⟨_, rfl⟩
            replace H : (sprref7_Names.l0 k1 l0 y343 (wrap64 (x4_1 + 1))) = some r := by first | (rw [hy343]; with_reducible exact H) | (have H2_ := (Option.bind_some _ _).symm.trans H; rw [hy343]; with_reducible exact H2_) | (have H2_ := (Option.bind_some _ _).symm.trans H; with_reducible exact H2_) | with_reducible exact H | (rw [hy343]; exact H) | exact H
            have Ny343 := Aside0.mk hy343
            clear hy343
            have H' := Aside0.mk H
            clear H
            have p342 : 0 ≤ (x4_1 : Int) := of_decide_eq_true (by first | (with_reducible assumption) | assumption)
            have q342 : x4_1 < (l0.length : Int) := of_decide_eq_true (by first | (with_reducible assumption) | assumption)
            obtain ⟨ad342, e342, hx342_0, hx342_1⟩ := at_T33 HR0.out x4_1 p342 q342
            cases e342
            replace hx342_0 := (HB.out.cell (World.block_lt_of_cell? w _ hx342_0)).trans hx342_0
            replace hx342_1 := (HB.out.cell (World.block_lt_of_cell? w _ hx342_1)).trans hx342_1
            replace p342 := eq_true p342
            replace q342 := eq_true q342
            go_wp2_with (first | ((with_reducible refine gate_builtin (b := .append) (xs := #[.tmp 11, .tmp 17]) rfl ?_); at_builtin; refine Kd.R_append Kd.string (w0 := w) w.heap.size rfl (.tmp 11) (.tmp 17) 36 9 (.string ⟨#[]⟩) 16 rfl Tryd.underlying36 info9 rfl (by decide) (by omega) u3 x3_1 ((rd_T33 l0 x4_1).f0) [.string ((rd_T33 l0 x4_1).f0)] (fun _ => True) (fun _ => False) rfl rfl ?aP (fun _ hk => hk.elim) ?aF ?aO ?aB ?aS ?aL ?_; (case aP => exact rfl); (case aB => exact (by repeat (first | (with_reducible first | exact HB.out | apply below_alloc | apply pw_below_drewN | apply below_drew1) | exact HB.out))); (case aF => exact (fun _ _ => trivial)); (case aO => exact (by (with_reducible repeat (first | apply Kd.R_alloc | apply Kd.R_drewN | apply Kd.R_drew)); exact HO_3.out)); (case aS => exact (below_size (by repeat (first | (with_reducible first | exact HB.out | apply below_alloc | apply pw_below_drewN | apply below_drew1) | exact HB.out)))); (case aL => have := LMc4.out; omega); intro v344 w5 ho hb hg hat; rw [← Ny343.out] at ho; have n0_ := Aside0.mk (hb); have n1_ := Aside0.mk (ho); clear HB; clear HO_3; have HB := n0_; have HO345 := n1_; clear n0_ n1_; clear ho hb hg hat))
            go_roundg k1
            case measure => have := HK1.out; omega
            case rel => exact ⟨(y343), (wrap64 (x4_1 + 1)), (by first | rfl | (simp; done) | (simp [*]; done)), H', ⟨by have := HK1.out; omega⟩, ⟨by (with_reducible repeat (first | apply Kd.R_alloc | apply Kd.R_drewN | apply Kd.R_drew)); exact HO345.out⟩, ⟨by repeat (first | (with_reducible first | exact HB.out | apply below_alloc | apply pw_below_drewN | apply below_drew1) | exact HB.out)⟩⟩
          · rw [if_neg c4] at H
            exact absurd H (by simp)
        · rw [if_neg c3] at H
          exact absurd H (by simp)
      · rw [if_neg c2] at H
        have c2b0 : decide (x4_1 < (l0.length : Int)) = false := decide_eq_false c2
        clear c2
        replace H := Option.bind_eq_some_iff.mp H
        obtain ⟨t346, A60, H⟩ := H
        replace H : (some t346) = some r := H
        have A6 := Aside0.mk A60
        clear A60
        obtain rfl := Option.some.inj H
        obtain ⟨Ao7, co7, eo7⟩ := Kd.R_slice HO_3.out
        subst eo7
        go_wp2_with (first | ((with_reducible refine gate_callee (f := 29) rfl ?_); refine goesL_ (some 20) rfl rfl Tryd.func29 (by kernel_rfl) rfl #[.slice Ao7 x3_1.length co7] rfl (by (try simp only [List.map_toArray, List.map_cons, List.map_nil]); first | done | rfl | (simp only [List.length_drop, List.length_take]; rfl)) ?_; (with_reducible refine (sprref_Unique.calls _ _ x3_1 t346 _ ?side1 ?side2 A6.out).mono ?_); (case side1 => repeat (first | exact (Kd.R_reads' HO_3.out).2.2 | (with_reducible refine Kd.C_alloc ?_ _) | (with_reducible refine Kd.C_drewN ?_ _) | (with_reducible refine Kd.C_drew ?_))); (case side2 => exact (Kd.R_reads' HO_3.out).2.1); rintro e w8 ⟨v347, rfl, ho0, hb⟩; refine ⟨_, rfl, ?_⟩; have n0_ := Aside0.mk (Kd.R_elder' (by (with_reducible repeat (first | apply Kd.R_alloc | apply Kd.R_drewN | apply Kd.R_drew)); exact HO_3.out) (Kd.R_base ho0) hb); have n1_ := Aside0.mk (Kd.R_lower (Kd.R_new' ho0 (Kd.R_lt (by (with_reducible repeat (first | apply Kd.R_alloc | apply Kd.R_drewN | apply Kd.R_drew)); exact HO_3.out))) (below_size (by repeat (first | (with_reducible first | exact HB.out | apply below_alloc | apply pw_below_drewN | apply below_drew1) | exact HB.out)))); have n2_ := Aside0.mk (below_step (by repeat (first | (with_reducible first | exact HB.out | apply below_alloc | apply pw_below_drewN | apply below_drew1) | exact HB.out)) hb); clear HO_3; clear HB; have HO_3 := n0_; have HO348 := n1_; have HB := n2_; clear n0_ n1_ n2_; (try clear hb); (try clear hb2); (try clear hk); (try clear hi); (try clear ho0)))
        go_ret
        exact ⟨_, by first | rfl | (simp [errW_none, errW_some] <;> rfl) | (simp [*, errW_none, errW_some] <;> rfl), by (with_reducible repeat (first | apply Kd.R_alloc | apply Kd.R_drewN | apply Kd.R_drew)); exact Kd.R_mono HO348.out (fun _ hk => trivial), by repeat (first | (with_reducible first | exact HB.out | apply below_alloc | apply pw_below_drewN | apply below_drew1) | exact HB.out)⟩

/-! ### sprlaw10_FormTexts: function 6 -/
def sprlaw10_FormTexts.j0 : Nat → ByteArray → List (S33) → Bool → Option (Bool)
  | 0, _, _, _ => none
  | k + 1, x0, x1, x19 => if x19 = true then ((sprlaw10_first.f k).bind fun t351 => (some t351)) else ((some (([] : List (S33)) : List (S33))).bind fun y352 => (if y352.length + x1.length < 4398046511104 then ((some (y352 ++ x1 : List (S33))).bind fun y355 => ((query_Parse.f k x0).bind fun bt358 => ((sprref7_ParseForm.f k x0).bind fun bt362 => ((sprlaw10_first.f k).bind fun t366 => (if t366 = true then ((sprref_Pairs.f k bt358.1 bt362.1).bind fun t367 => (if t367 = true then (if bt358.2 = bt362.2 then ((query_Print.f k y355).bind fun t368 => ((sprref7_PrintForm.f k x1).bind fun t369 => (if t368.toList = t369.toList then ((query_Names.f k y355).bind fun t370 => ((sprref7_Names.f k x1).bind fun t373 => ((sprref_Texts.f k t370 t373).bind fun t376 => (if t376 = true then ((sprref_Pairs.f k y355 x1).bind fun t377 => (some t377)) else (some false))))) else (some false)))) else (some false)) else (some false))) else (some false)))))) else (none)))
def sprlaw10_FormTexts.f (k : Nat) (a0 : ByteArray) (l1 : List (S33)) : Option (Bool) := (sprlaw10_first.f k).bind fun t349 => (if t349 = true then (if (a0.size : Int) > 5000 then (sprlaw10_FormTexts.j0 k a0 l1 true) else ((sprlaw10_few.f k l1).bind fun t350 => (sprlaw10_FormTexts.j0 k a0 l1 (!t350)))) else (some false))
theorem sprlaw10_FormTexts.mono_l : ∀ k, (∀ y0 y1 y2, LeO (sprlaw10_FormTexts.j0 k y0 y1 y2) (sprlaw10_FormTexts.j0 (k + 1) y0 y1 y2))
  | 0 => fun _ _ _ r h => by simp [sprlaw10_FormTexts.j0] at h
  | k + 1 => by
    have ih0 := sprlaw10_FormTexts.mono_l k
    · intro y0 y1 y2
      unfold sprlaw10_FormTexts.j0
      repeat' first
      | (with_reducible exact ih0 _ _ _)
      | (with_reducible exact query_Names.mono _ _)
      | (with_reducible exact query_Parse.mono _ _)
      | (with_reducible exact query_Print.mono _ _)
      | (with_reducible exact sprlaw10_few.mono _ _)
      | (with_reducible exact sprlaw10_first.mono _)
      | (with_reducible exact sprref7_Names.mono _ _)
      | (with_reducible exact sprref7_ParseForm.mono _ _)
      | (with_reducible exact sprref7_PrintForm.mono _ _)
      | (with_reducible exact sprref_Pairs.mono _ _ _)
      | (with_reducible exact sprref_Texts.mono _ _ _)
      | (with_reducible exact LeO.refl _)
      | (with_reducible exact LeO.none _)
      | (with_reducible refine LeO.ite ?_ ?_)
      | (with_reducible refine LeO.bind ?_ (fun _ => ?_))
      | exact ih0 _ _ _
      | exact query_Names.mono _ _
      | exact query_Parse.mono _ _
      | exact query_Print.mono _ _
      | exact sprlaw10_few.mono _ _
      | exact sprlaw10_first.mono _
      | exact sprref7_Names.mono _ _
      | exact sprref7_ParseForm.mono _ _
      | exact sprref7_PrintForm.mono _ _
      | exact sprref_Pairs.mono _ _ _
      | exact sprref_Texts.mono _ _ _
      | exact LeO.none _
      | refine LeO.ite ?_ ?_
      | refine LeO.bind ?_ (fun _ => ?_)
theorem sprlaw10_FormTexts.mono : ∀ a0 a1 k, LeO (sprlaw10_FormTexts.f k a0 a1) (sprlaw10_FormTexts.f (k + 1) a0 a1) := by
  intro a0 a1 k
  have ih0 := sprlaw10_FormTexts.mono_l k
  unfold sprlaw10_FormTexts.f
  repeat' first
      | (with_reducible exact ih0 _ _ _)
      | (with_reducible exact query_Names.mono _ _)
      | (with_reducible exact query_Parse.mono _ _)
      | (with_reducible exact query_Print.mono _ _)
      | (with_reducible exact sprlaw10_few.mono _ _)
      | (with_reducible exact sprlaw10_first.mono _)
      | (with_reducible exact sprref7_Names.mono _ _)
      | (with_reducible exact sprref7_ParseForm.mono _ _)
      | (with_reducible exact sprref7_PrintForm.mono _ _)
      | (with_reducible exact sprref_Pairs.mono _ _ _)
      | (with_reducible exact sprref_Texts.mono _ _ _)
      | (with_reducible exact LeO.refl _)
      | (with_reducible exact LeO.none _)
      | (with_reducible refine LeO.ite ?_ ?_)
      | (with_reducible refine LeO.bind ?_ (fun _ => ?_))
      | exact ih0 _ _ _
      | exact query_Names.mono _ _
      | exact query_Parse.mono _ _
      | exact query_Print.mono _ _
      | exact sprlaw10_few.mono _ _
      | exact sprlaw10_first.mono _
      | exact sprref7_Names.mono _ _
      | exact sprref7_ParseForm.mono _ _
      | exact sprref7_PrintForm.mono _ _
      | exact sprref_Pairs.mono _ _ _
      | exact sprref_Texts.mono _ _ _
      | exact LeO.none _
      | refine LeO.ite ?_ ?_
      | refine LeO.bind ?_ (fun _ => ?_)
set_option maxHeartbeats 2000000 in
set_option maxRecDepth 100000 in
theorem sprlaw10_FormTexts.calls (k : Nat) (a0 : ByteArray) (A1 : Option Addr) (c1 : Nat) (l1 : List (S33)) (r : Bool) (w : World) (hr1 : Kd.C k33 w A1 l1.length l1) (hc1 : l1.length ≤ c1) (h : sprlaw10_FormTexts.f k a0 l1 = some r) (hT : Aside0 (r = true)) (hT0 : replW w) :
    Calls Tryd.prog 6 #[.string a0, .slice A1 l1.length c1] w fun e w' => e = .returned (.bool r) ∧ Below w.heap.size w w' := by
  have HT0 := Aside0.mk hT0
  clear hT0
  have HR1 := Aside0.mk hr1
  have HC1 := Aside0.mk hc1
  clear hr1 hc1
  have HB := Aside0.mk (Below.refl w.heap.size w)
  have H : ((sprlaw10_first.f k).bind fun t349 => (if t349 = true then (if (a0.size : Int) > 5000 then (sprlaw10_FormTexts.j0 k a0 l1 true) else ((sprlaw10_few.f k l1).bind fun t350 => (sprlaw10_FormTexts.j0 k a0 l1 (!t350)))) else (some false))) = some r := h
  clear h
  replace H := Option.bind_eq_some_iff.mp H
  obtain ⟨t349, A30, H⟩ := H
  replace H : (if t349 = true then (if (a0.size : Int) > 5000 then (sprlaw10_FormTexts.j0 k a0 l1 true) else ((sprlaw10_few.f k l1).bind fun t350 => (sprlaw10_FormTexts.j0 k a0 l1 (!t350)))) else (some false)) = some r := H
  have A3 := Aside0.mk A30
  clear A30
  by_cases c4 : t349 = true
  · subst c4
    have H1 : (if (a0.size : Int) > 5000 then (sprlaw10_FormTexts.j0 k a0 l1 true) else ((sprlaw10_few.f k l1).bind fun t350 => (sprlaw10_FormTexts.j0 k a0 l1 (!t350)))) = some r := by rw [if_pos rfl] at H; exact H
    clear H
    have H := H1
    clear H1
    have HC5 := Aside0.mk H
    clear H
    go_enter Tryd.func6, Tryd.ntmps6
    go_upto_region 3 with (first | ((with_reducible refine gate_callee (f := 7) rfl ?_); refine goesL_ (some 10) rfl rfl Tryd.func7 (by kernel_rfl) rfl #[] rfl (by (try simp only [List.map_toArray, List.map_cons, List.map_nil]); first | done | rfl | (simp only [List.length_drop, List.length_take]; rfl)) ?_; (with_reducible refine (sprlaw10_first.calls k  true _ A3.out (tab_below HT0.out (by repeat (first | (with_reducible first | exact HB.out | apply below_alloc | apply pw_below_drewN | apply below_drew1) | exact HB.out)))).mono ?_); rintro e w6 ⟨rfl, hb⟩; refine ⟨_, rfl, ?_⟩; have n0_ := Aside0.mk (below_step (by repeat (first | (with_reducible first | exact HB.out | apply below_alloc | apply pw_below_drewN | apply below_drew1) | exact HB.out)) hb); clear HB; have HB := n0_; clear n0_; (try clear hb); (try clear hb2); (try clear hk); (try clear hi)))
    (try simp only [Act.put, List.setIfInBounds_toArray, List.set_cons_zero, List.set_cons_succ])
    go_cut [19] (fun v19 wc => ∃ (kq : Nat) (x19_4 : Bool), v19 = .bool x19_4 ∧ Aside0 (sprlaw10_FormTexts.j0 kq a0 l1 x19_4 = some r) ∧ Aside0 (kq ≤ k) ∧ Aside0 (Below w.heap.size w wc))
    case first =>
      have H := HC5.out
      clear HC5
      by_cases c7 : (a0.size : Int) > 5000
      · rw [if_pos c7] at H
        have c7b0 : decide (5000 < (a0.size : Int)) = true := decide_eq_true c7
        have c7b1 : decide (5000 < a0.size) = true := decide_eq_true (by omega)
        clear c7
        (first | rw [c7b0] | (simp only [i64_w, i32_w]; rw [c7b0]) | skip)
        have H' := Aside0.mk H
        clear H
        go_wp2
        go_meet
        case rel => exact ⟨_, (true), (by first | rfl | (simp; done) | (simp [*]; done)), H', ⟨by first | omega | exact Nat.le_refl _⟩, ⟨by repeat (first | (with_reducible first | exact HB.out | apply below_alloc | apply pw_below_drewN | apply below_drew1) | exact HB.out)⟩⟩
      · rw [if_neg c7] at H
        have c7b0 : decide (5000 < (a0.size : Int)) = false := decide_eq_false c7
        have c7b1 : decide (5000 < a0.size) = false := decide_eq_false (by omega)
        clear c7
        (first | rw [c7b0] | (simp only [i64_w, i32_w]; rw [c7b0]) | skip)
        replace H := Option.bind_eq_some_iff.mp H
        obtain ⟨t350, A80, H⟩ := H
        replace H : (sprlaw10_FormTexts.j0 k a0 l1 (!t350)) = some r := H
        have A8 := Aside0.mk A80
        clear A80
        have H' := Aside0.mk H
        clear H
        go_wp2_with (first | (go_at_call 10; (with_reducible refine (sprlaw10_few.calls k _ _ l1 t350 _ ?side1 ?side2 A8.out).mono ?_); (case side1 => repeat (first | exact (Kd.C_below HR1.out HB.out) | (with_reducible refine Kd.C_alloc ?_ _) | (with_reducible refine Kd.C_drewN ?_ _) | (with_reducible refine Kd.C_drew ?_))); (case side2 => exact HC1.out); rintro e w9 ⟨rfl, hb⟩; have n0_ := Aside0.mk (below_step (by repeat (first | (with_reducible first | exact HB.out | apply below_alloc | apply pw_below_drewN | apply below_drew1) | exact HB.out)) hb); clear HB; have HB := n0_; clear n0_; (try clear hb); (try clear hb2); (try clear hk); (try clear hi)))
        go_meet
        case rel => exact ⟨_, (!t350), (by first | rfl | (simp; done) | (simp [*]; done)), H', ⟨by first | omega | exact Nat.le_refl _⟩, ⟨by repeat (first | (with_reducible first | exact HB.out | apply below_alloc | apply pw_below_drewN | apply below_drew1) | exact HB.out)⟩⟩
    case rest =>
      clear HC5
      try clear c1
      try clear p2
      try clear c4
      try clear c6
      try clear c7
      try clear c7b0
      try clear c7b1
      obtain ⟨kq, x19_4, rfl, HA, HJ4, HB⟩ := hcut
      cases kq with
      | zero => exact absurd HA.out (by simp [sprlaw10_FormTexts.j0])
      | succ kj4 =>
        have H := HA.out
        clear HA
        simp only [sprlaw10_FormTexts.j0] at H
        by_cases c10 : x19_4 = true
        · subst c10
          have H1 : ((sprlaw10_first.f kj4).bind fun t351 => (some t351)) = some r := by rw [if_pos rfl] at H; exact H
          clear H
          have H := H1
          clear H1
          replace H := Option.bind_eq_some_iff.mp H
          obtain ⟨t351, A110, H⟩ := H
          replace H : (some t351) = some r := H
          have A11 := Aside0.mk A110
          clear A110
          obtain rfl := Option.some.inj H
          go_wp2_with (first | ((with_reducible refine gate_callee (f := 7) rfl ?_); refine goesL_ (some 20) rfl rfl Tryd.func7 (by kernel_rfl) rfl #[] rfl (by (try simp only [List.map_toArray, List.map_cons, List.map_nil]); first | done | rfl | (simp only [List.length_drop, List.length_take]; rfl)) ?_; (with_reducible refine (sprlaw10_first.calls kj4  t351 _ A11.out (tab_below HT0.out (by repeat (first | (with_reducible first | exact HB.out | apply below_alloc | apply pw_below_drewN | apply below_drew1) | exact HB.out)))).mono ?_); rintro e w12 ⟨rfl, hb⟩; refine ⟨_, rfl, ?_⟩; have n0_ := Aside0.mk (below_step (by repeat (first | (with_reducible first | exact HB.out | apply below_alloc | apply pw_below_drewN | apply below_drew1) | exact HB.out)) hb); clear HB; have HB := n0_; clear n0_; (try clear hb); (try clear hb2); (try clear hk); (try clear hi)))
          go_ret
          exact ⟨by first | rfl | (simp [errW_none, errW_some] <;> rfl) | (simp [*, errW_none, errW_some] <;> rfl), by repeat (first | (with_reducible first | exact HB.out | apply below_alloc | apply pw_below_drewN | apply below_drew1) | exact HB.out)⟩
        · replace c10 := Bool.eq_false_iff.mpr c10
          subst c10
          have H1 : ((some (([] : List (S33)) : List (S33))).bind fun y352 => (if y352.length + l1.length < 4398046511104 then ((some (y352 ++ l1 : List (S33))).bind fun y355 => ((query_Parse.f kj4 a0).bind fun bt358 => ((sprref7_ParseForm.f kj4 a0).bind fun bt362 => ((sprlaw10_first.f kj4).bind fun t366 => (if t366 = true then ((sprref_Pairs.f kj4 bt358.1 bt362.1).bind fun t367 => (if t367 = true then (if bt358.2 = bt362.2 then ((query_Print.f kj4 y355).bind fun t368 => ((sprref7_PrintForm.f kj4 l1).bind fun t369 => (if t368.toList = t369.toList then ((query_Names.f kj4 y355).bind fun t370 => ((sprref7_Names.f kj4 l1).bind fun t373 => ((sprref_Texts.f kj4 t370 t373).bind fun t376 => (if t376 = true then ((sprref_Pairs.f kj4 y355 l1).bind fun t377 => (some t377)) else (some false))))) else (some false)))) else (some false)) else (some false))) else (some false)))))) else (none))) = some r := by rw [if_neg (show ¬ (false = true) by decide)] at H; exact H
          clear H
          have H := H1
          clear H1
          obtain ⟨y352, hy352⟩ : ∃ y_ : List (S33), y_ = (([] : List (S33))) := ⟨_, rfl⟩
          replace H : (if y352.length + l1.length < 4398046511104 then ((some (y352 ++ l1 : List (S33))).bind fun y355 => ((query_Parse.f kj4 a0).bind fun bt358 => ((sprref7_ParseForm.f kj4 a0).bind fun bt362 => ((sprlaw10_first.f kj4).bind fun t366 => (if t366 = true then ((sprref_Pairs.f kj4 bt358.1 bt362.1).bind fun t367 => (if t367 = true then (if bt358.2 = bt362.2 then ((query_Print.f kj4 y355).bind fun t368 => ((sprref7_PrintForm.f kj4 l1).bind fun t369 => (if t368.toList = t369.toList then ((query_Names.f kj4 y355).bind fun t370 => ((sprref7_Names.f kj4 l1).bind fun t373 => ((sprref_Texts.f kj4 t370 t373).bind fun t376 => (if t376 = true then ((sprref_Pairs.f kj4 y355 l1).bind fun t377 => (some t377)) else (some false))))) else (some false)))) else (some false)) else (some false))) else (some false)))))) else (none)) = some r := by first | (rw [hy352]; with_reducible exact H) | (have H2_ := (Option.bind_some _ _).symm.trans H; rw [hy352]; with_reducible exact H2_) | (have H2_ := (Option.bind_some _ _).symm.trans H; with_reducible exact H2_) | with_reducible exact H | (rw [hy352]; exact H) | exact H
          have Ny352 := Aside0.mk hy352
          clear hy352
          by_cases c13 : y352.length + l1.length < 4398046511104
          · rw [if_pos c13] at H
            have LMc13 := Aside0.mk c13
            clear c13
            obtain ⟨y355, hy355⟩ : ∃ y_ : List (S33), y_ = (y352 ++ l1) := ⟨_, rfl⟩
            replace H : ((query_Parse.f kj4 a0).bind fun bt358 => ((sprref7_ParseForm.f kj4 a0).bind fun bt362 => ((sprlaw10_first.f kj4).bind fun t366 => (if t366 = true then ((sprref_Pairs.f kj4 bt358.1 bt362.1).bind fun t367 => (if t367 = true then (if bt358.2 = bt362.2 then ((query_Print.f kj4 y355).bind fun t368 => ((sprref7_PrintForm.f kj4 l1).bind fun t369 => (if t368.toList = t369.toList then ((query_Names.f kj4 y355).bind fun t370 => ((sprref7_Names.f kj4 l1).bind fun t373 => ((sprref_Texts.f kj4 t370 t373).bind fun t376 => (if t376 = true then ((sprref_Pairs.f kj4 y355 l1).bind fun t377 => (some t377)) else (some false))))) else (some false)))) else (some false)) else (some false))) else (some false))))) = some r := by first | (rw [hy355]; with_reducible exact H) | (have H2_ := (Option.bind_some _ _).symm.trans H; rw [hy355]; with_reducible exact H2_) | (have H2_ := (Option.bind_some _ _).symm.trans H; with_reducible exact H2_) | with_reducible exact H | (rw [hy355]; exact H) | exact H
            have Ny355 := Aside0.mk hy355
            clear hy355
            replace H := Option.bind_eq_some_iff.mp H
            obtain ⟨⟨t358, t359⟩, A140, H⟩ := H
            replace H : ((sprref7_ParseForm.f kj4 a0).bind fun bt362 => ((sprlaw10_first.f kj4).bind fun t366 => (if t366 = true then ((sprref_Pairs.f kj4 t358 bt362.1).bind fun t367 => (if t367 = true then (if t359 = bt362.2 then ((query_Print.f kj4 y355).bind fun t368 => ((sprref7_PrintForm.f kj4 l1).bind fun t369 => (if t368.toList = t369.toList then ((query_Names.f kj4 y355).bind fun t370 => ((sprref7_Names.f kj4 l1).bind fun t373 => ((sprref_Texts.f kj4 t370 t373).bind fun t376 => (if t376 = true then ((sprref_Pairs.f kj4 y355 l1).bind fun t377 => (some t377)) else (some false))))) else (some false)))) else (some false)) else (some false))) else (some false)))) = some r := H
            have A14 := Aside0.mk A140
            clear A140
            replace H := Option.bind_eq_some_iff.mp H
            obtain ⟨⟨t362, t363⟩, A150, H⟩ := H
            replace H : ((sprlaw10_first.f kj4).bind fun t366 => (if t366 = true then ((sprref_Pairs.f kj4 t358 t362).bind fun t367 => (if t367 = true then (if t359 = t363 then ((query_Print.f kj4 y355).bind fun t368 => ((sprref7_PrintForm.f kj4 l1).bind fun t369 => (if t368.toList = t369.toList then ((query_Names.f kj4 y355).bind fun t370 => ((sprref7_Names.f kj4 l1).bind fun t373 => ((sprref_Texts.f kj4 t370 t373).bind fun t376 => (if t376 = true then ((sprref_Pairs.f kj4 y355 l1).bind fun t377 => (some t377)) else (some false))))) else (some false)))) else (some false)) else (some false))) else (some false))) = some r := H
            have A15 := Aside0.mk A150
            clear A150
            replace H := Option.bind_eq_some_iff.mp H
            obtain ⟨t366, A160, H⟩ := H
            replace H : (if t366 = true then ((sprref_Pairs.f kj4 t358 t362).bind fun t367 => (if t367 = true then (if t359 = t363 then ((query_Print.f kj4 y355).bind fun t368 => ((sprref7_PrintForm.f kj4 l1).bind fun t369 => (if t368.toList = t369.toList then ((query_Names.f kj4 y355).bind fun t370 => ((sprref7_Names.f kj4 l1).bind fun t373 => ((sprref_Texts.f kj4 t370 t373).bind fun t376 => (if t376 = true then ((sprref_Pairs.f kj4 y355 l1).bind fun t377 => (some t377)) else (some false))))) else (some false)))) else (some false)) else (some false))) else (some false)) = some r := H
            have A16 := Aside0.mk A160
            clear A160
            by_cases c17 : t366 = true
            · subst c17
              have H1 : ((sprref_Pairs.f kj4 t358 t362).bind fun t367 => (if t367 = true then (if t359 = t363 then ((query_Print.f kj4 y355).bind fun t368 => ((sprref7_PrintForm.f kj4 l1).bind fun t369 => (if t368.toList = t369.toList then ((query_Names.f kj4 y355).bind fun t370 => ((sprref7_Names.f kj4 l1).bind fun t373 => ((sprref_Texts.f kj4 t370 t373).bind fun t376 => (if t376 = true then ((sprref_Pairs.f kj4 y355 l1).bind fun t377 => (some t377)) else (some false))))) else (some false)))) else (some false)) else (some false))) = some r := by rw [if_pos rfl] at H; exact H
              clear H
              have H := H1
              clear H1
              replace H := Option.bind_eq_some_iff.mp H
              obtain ⟨t367, A180, H⟩ := H
              replace H : (if t367 = true then (if t359 = t363 then ((query_Print.f kj4 y355).bind fun t368 => ((sprref7_PrintForm.f kj4 l1).bind fun t369 => (if t368.toList = t369.toList then ((query_Names.f kj4 y355).bind fun t370 => ((sprref7_Names.f kj4 l1).bind fun t373 => ((sprref_Texts.f kj4 t370 t373).bind fun t376 => (if t376 = true then ((sprref_Pairs.f kj4 y355 l1).bind fun t377 => (some t377)) else (some false))))) else (some false)))) else (some false)) else (some false)) = some r := H
              have A18 := Aside0.mk A180
              clear A180
              by_cases c19 : t367 = true
              · subst c19
                have H1 : (if t359 = t363 then ((query_Print.f kj4 y355).bind fun t368 => ((sprref7_PrintForm.f kj4 l1).bind fun t369 => (if t368.toList = t369.toList then ((query_Names.f kj4 y355).bind fun t370 => ((sprref7_Names.f kj4 l1).bind fun t373 => ((sprref_Texts.f kj4 t370 t373).bind fun t376 => (if t376 = true then ((sprref_Pairs.f kj4 y355 l1).bind fun t377 => (some t377)) else (some false))))) else (some false)))) else (some false)) = some r := by rw [if_pos rfl] at H; exact H
                clear H
                have H := H1
                clear H1
                by_cases c20 : t359 = t363
                · rw [if_pos c20] at H
                  have c20b0 : (t359 == t363) = true := beq_iff_eq.mpr c20
                  have c20b1 : (t359 != t363) = false := bne_eq_false_iff_eq.mpr c20
                  clear c20
                  replace H := Option.bind_eq_some_iff.mp H
                  obtain ⟨t368, A210, H⟩ := H
                  replace H : ((sprref7_PrintForm.f kj4 l1).bind fun t369 => (if t368.toList = t369.toList then ((query_Names.f kj4 y355).bind fun t370 => ((sprref7_Names.f kj4 l1).bind fun t373 => ((sprref_Texts.f kj4 t370 t373).bind fun t376 => (if t376 = true then ((sprref_Pairs.f kj4 y355 l1).bind fun t377 => (some t377)) else (some false))))) else (some false))) = some r := H
                  have A21 := Aside0.mk A210
                  clear A210
                  replace H := Option.bind_eq_some_iff.mp H
                  obtain ⟨t369, A220, H⟩ := H
                  replace H : (if t368.toList = t369.toList then ((query_Names.f kj4 y355).bind fun t370 => ((sprref7_Names.f kj4 l1).bind fun t373 => ((sprref_Texts.f kj4 t370 t373).bind fun t376 => (if t376 = true then ((sprref_Pairs.f kj4 y355 l1).bind fun t377 => (some t377)) else (some false))))) else (some false)) = some r := H
                  have A22 := Aside0.mk A220
                  clear A220
                  by_cases c23 : t368.toList = t369.toList
                  · rw [if_pos c23] at H
                    have c23b0 : (t368.toList == t369.toList) = true := beq_iff_eq.mpr c23
                    have c23b1 : (t368.toList != t369.toList) = false := bne_eq_false_iff_eq.mpr c23
                    clear c23
                    replace H := Option.bind_eq_some_iff.mp H
                    obtain ⟨t370, A240, H⟩ := H
                    replace H : ((sprref7_Names.f kj4 l1).bind fun t373 => ((sprref_Texts.f kj4 t370 t373).bind fun t376 => (if t376 = true then ((sprref_Pairs.f kj4 y355 l1).bind fun t377 => (some t377)) else (some false)))) = some r := H
                    have A24 := Aside0.mk A240
                    clear A240
                    replace H := Option.bind_eq_some_iff.mp H
                    obtain ⟨t373, A250, H⟩ := H
                    replace H : ((sprref_Texts.f kj4 t370 t373).bind fun t376 => (if t376 = true then ((sprref_Pairs.f kj4 y355 l1).bind fun t377 => (some t377)) else (some false))) = some r := H
                    have A25 := Aside0.mk A250
                    clear A250
                    replace H := Option.bind_eq_some_iff.mp H
                    obtain ⟨t376, A260, H⟩ := H
                    replace H : (if t376 = true then ((sprref_Pairs.f kj4 y355 l1).bind fun t377 => (some t377)) else (some false)) = some r := H
                    have A26 := Aside0.mk A260
                    clear A260
                    by_cases c27 : t376 = true
                    · subst c27
                      have H1 : ((sprref_Pairs.f kj4 y355 l1).bind fun t377 => (some t377)) = some r := by rw [if_pos rfl] at H; exact H
                      clear H
                      have H := H1
                      clear H1
                      replace H := Option.bind_eq_some_iff.mp H
                      obtain ⟨t377, A280, H⟩ := H
                      replace H : (some t377) = some r := H
                      have A28 := Aside0.mk A280
                      clear A280
                      obtain rfl := Option.some.inj H
                      go_wp2_with (first | ((with_reducible refine gate_dst (N := 21) rfl ?_); refine Kd.R_lit k33 _ 33 ?hg (N := 21) ?hd (xs := ([] : List (S33))) (inner := []) (ok := fun _ => True) (okp := fun _ => True) ?hr ?hp (fun _ hk => hk) trivial (Below.refl _ _) (Nat.le_refl _) (by simp) ?_; (case hd => rfl); (case hg => rfl); (case hr => first | (go_simp; done) | (go_simp; rfl)); (case hp => exact (Reps.none _ _)); intro v353 w29 ho30 hb hg_ hnew_; clear hg_ hnew_; (first | rw [← Ny352.out] at ho30 | (simp only [Int.reduceToNat] at ho30; rw [← Ny352.out] at ho30)); have n0_ := Aside0.mk (Kd.R_lower ho30 (below_size (by repeat (first | (with_reducible first | exact HB.out | apply below_alloc | apply pw_below_drewN | apply below_drew1) | exact HB.out)))); have n1_ := Aside0.mk (below_step (by repeat (first | (with_reducible first | exact HB.out | apply below_alloc | apply pw_below_drewN | apply below_drew1) | exact HB.out)) hb); clear HB; have HO354 := n0_; have HB := n1_; clear n0_ n1_; clear hb ho30) | ((with_reducible refine gate_builtin (b := .append) (xs := #[.tmp 21, .tmp 22]) rfl ?_); at_builtin; refine Kd.R_append_rows k33 (w0 := w) w.heap.size rfl (.tmp 21) (.tmp 22) 23 33 (.agg #[(.string ⟨#[]⟩), (.string ⟨#[]⟩)]) 32 rfl Tryd.underlying23 info33 rfl (by decide) (by omega) v353 y352 l1 _ _ _ (fun _ => True) (fun _ => False) rfl rfl ?aO ?aR (fun _ _ h => h) (fun _ h => h.elim) ?aF ?aB ?aS ?aL ?_; (case aR => repeat (first | exact (Kd.C_below HR1.out HB.out) | (with_reducible refine Kd.C_alloc ?_ _) | (with_reducible refine Kd.C_drewN ?_ _) | (with_reducible refine Kd.C_drew ?_))); (case aB => exact (by repeat (first | (with_reducible first | exact HB.out | apply below_alloc | apply pw_below_drewN | apply below_drew1) | exact HB.out))); (case aF => exact (fun _ _ => trivial)); (case aO => exact (by (with_reducible repeat (first | apply Kd.R_alloc | apply Kd.R_drewN | apply Kd.R_drew)); exact HO354.out)); (case aS => exact (below_size (by repeat (first | (with_reducible first | exact HB.out | apply below_alloc | apply pw_below_drewN | apply below_drew1) | exact HB.out)))); (case aL => have := LMc13.out; omega); intro v356 w31 ho hb hg hat; rw [← Ny355.out] at ho; have n0_ := Aside0.mk (hb); have n1_ := Aside0.mk (ho); clear HB; clear HO354; have HB := n0_; have HO357 := n1_; clear n0_ n1_; clear ho hb hg hat) | ((with_reducible refine gate_callee (f := 8) rfl ?_); refine goesL_ (some 26) rfl rfl Tryd.func8 (by kernel_rfl) rfl #[.string a0] rfl (by (try simp only [List.map_toArray, List.map_cons, List.map_nil]); first | done | rfl | (simp only [List.length_drop, List.length_take]; rfl)) ?_; (with_reducible refine (query_Parse.calls kj4 a0 t358 t359 _ A14.out (tab_below HT0.out (by repeat (first | (with_reducible first | exact HB.out | apply below_alloc | apply pw_below_drewN | apply below_drew1) | exact HB.out)))).mono ?_); rintro e w32 ⟨v360, rfl, ho0, hb⟩; refine ⟨_, rfl, ?_⟩; have n0_ := Aside0.mk (Kd.R_elder' (by (with_reducible repeat (first | apply Kd.R_alloc | apply Kd.R_drewN | apply Kd.R_drew)); exact HO357.out) (Kd.R_base ho0) hb); have n1_ := Aside0.mk (Kd.R_lower (Kd.R_new' ho0 (Kd.R_lt (by (with_reducible repeat (first | apply Kd.R_alloc | apply Kd.R_drewN | apply Kd.R_drew)); exact HO357.out))) (below_size (by repeat (first | (with_reducible first | exact HB.out | apply below_alloc | apply pw_below_drewN | apply below_drew1) | exact HB.out)))); have n2_ := Aside0.mk (below_step (by repeat (first | (with_reducible first | exact HB.out | apply below_alloc | apply pw_below_drewN | apply below_drew1) | exact HB.out)) hb); clear HO357; clear HB; have HO357 := n0_; have HO361 := n1_; have HB := n2_; clear n0_ n1_ n2_; (try clear hb); (try clear hb2); (try clear hk); (try clear hi); (try clear ho0)) | ((with_reducible refine gate_callee (f := 13) rfl ?_); refine goesL_ (some 31) rfl rfl Tryd.func13 (by kernel_rfl) rfl #[.string a0] rfl (by (try simp only [List.map_toArray, List.map_cons, List.map_nil]); first | done | rfl | (simp only [List.length_drop, List.length_take]; rfl)) ?_; (with_reducible refine (sprref7_ParseForm.calls kj4 a0 t362 t363 _ A15.out).mono ?_); rintro e w33 ⟨v364, rfl, ho0, hb⟩; refine ⟨_, rfl, ?_⟩; have n0_ := Aside0.mk (Kd.R_elder' (by (with_reducible repeat (first | apply Kd.R_alloc | apply Kd.R_drewN | apply Kd.R_drew)); exact HO357.out) (Kd.R_base ho0) hb); have n1_ := Aside0.mk (Kd.R_elder' (by (with_reducible repeat (first | apply Kd.R_alloc | apply Kd.R_drewN | apply Kd.R_drew)); exact HO361.out) (Kd.R_base ho0) hb); have n2_ := Aside0.mk (Kd.R_lower (Kd.R_new' (Kd.R_new' ho0 (Kd.R_lt (by (with_reducible repeat (first | apply Kd.R_alloc | apply Kd.R_drewN | apply Kd.R_drew)); exact HO357.out))) (Kd.R_lt (by (with_reducible repeat (first | apply Kd.R_alloc | apply Kd.R_drewN | apply Kd.R_drew)); exact HO361.out))) (below_size (by repeat (first | (with_reducible first | exact HB.out | apply below_alloc | apply pw_below_drewN | apply below_drew1) | exact HB.out)))); have n3_ := Aside0.mk (below_step (by repeat (first | (with_reducible first | exact HB.out | apply below_alloc | apply pw_below_drewN | apply below_drew1) | exact HB.out)) hb); clear HO357; clear HO361; clear HB; have HO357 := n0_; have HO361 := n1_; have HO365 := n2_; have HB := n3_; clear n0_ n1_ n2_ n3_; (try clear hb); (try clear hb2); (try clear hk); (try clear hi); (try clear ho0)) | ((with_reducible refine gate_callee (f := 7) rfl ?_); refine goesL_ (some 34) rfl rfl Tryd.func7 (by kernel_rfl) rfl #[] rfl (by (try simp only [List.map_toArray, List.map_cons, List.map_nil]); first | done | rfl | (simp only [List.length_drop, List.length_take]; rfl)) ?_; (with_reducible refine (sprlaw10_first.calls kj4  true _ A16.out (tab_below HT0.out (by repeat (first | (with_reducible first | exact HB.out | apply below_alloc | apply pw_below_drewN | apply below_drew1) | exact HB.out)))).mono ?_); rintro e w34 ⟨rfl, hb⟩; refine ⟨_, rfl, ?_⟩; have n0_ := Aside0.mk (Kd.R_below (by (with_reducible repeat (first | apply Kd.R_alloc | apply Kd.R_drewN | apply Kd.R_drew)); exact HO357.out) hb); have n1_ := Aside0.mk (Kd.R_below (by (with_reducible repeat (first | apply Kd.R_alloc | apply Kd.R_drewN | apply Kd.R_drew)); exact HO361.out) hb); have n2_ := Aside0.mk (Kd.R_below (by (with_reducible repeat (first | apply Kd.R_alloc | apply Kd.R_drewN | apply Kd.R_drew)); exact HO365.out) hb); have n3_ := Aside0.mk (below_step (by repeat (first | (with_reducible first | exact HB.out | apply below_alloc | apply pw_below_drewN | apply below_drew1) | exact HB.out)) hb); clear HO357; clear HO361; clear HO365; clear HB; have HO357 := n0_; have HO361 := n1_; have HO365 := n2_; have HB := n3_; clear n0_ n1_ n2_ n3_; (try clear hb); (try clear hb2); (try clear hk); (try clear hi); obtain ⟨Ao35, co35, eo35⟩ := Kd.R_slice HO361.out; subst eo35; obtain ⟨Ao36, co36, eo36⟩ := Kd.R_slice HO365.out; subst eo36) | (go_at_call 9; (with_reducible refine (sprref_Pairs.calls kj4 _ _ t358 _ _ t362 true _ ?side1 ?side2 ?side3 ?side4 A18.out).mono ?_); (case side1 => repeat (first | exact (Kd.R_reads' HO361.out).2.2 | (with_reducible refine Kd.C_alloc ?_ _) | (with_reducible refine Kd.C_drewN ?_ _) | (with_reducible refine Kd.C_drew ?_))); (case side2 => exact (Kd.R_reads' HO361.out).2.1); (case side3 => repeat (first | exact (Kd.R_reads' HO365.out).2.2 | (with_reducible refine Kd.C_alloc ?_ _) | (with_reducible refine Kd.C_drewN ?_ _) | (with_reducible refine Kd.C_drew ?_))); (case side4 => exact (Kd.R_reads' HO365.out).2.1); rintro e w' ⟨rfl, ⟨nd, rfl⟩⟩; obtain ⟨Ao37, co37, eo37⟩ := Kd.R_slice HO357.out; subst eo37) | (go_at_call 11; (with_reducible refine (query_Print.calls kj4 _ _ y355 t368 _ ?side1 ?side2 A21.out).mono ?_); (case side1 => repeat (first | exact (Kd.R_reads' HO357.out).2.2 | (with_reducible refine Kd.C_alloc ?_ _) | (with_reducible refine Kd.C_drewN ?_ _) | (with_reducible refine Kd.C_drew ?_))); (case side2 => exact (Kd.R_reads' HO357.out).2.1); rintro e w38 ⟨rfl, hb⟩; have n0_ := Aside0.mk (Kd.R_below (by (with_reducible repeat (first | apply Kd.R_alloc | apply Kd.R_drewN | apply Kd.R_drew)); exact HO357.out) hb); have n1_ := Aside0.mk (Kd.R_below (by (with_reducible repeat (first | apply Kd.R_alloc | apply Kd.R_drewN | apply Kd.R_drew)); exact HO361.out) hb); have n2_ := Aside0.mk (Kd.R_below (by (with_reducible repeat (first | apply Kd.R_alloc | apply Kd.R_drewN | apply Kd.R_drew)); exact HO365.out) hb); have n3_ := Aside0.mk (below_step (by repeat (first | (with_reducible first | exact HB.out | apply below_alloc | apply pw_below_drewN | apply below_drew1) | exact HB.out)) hb); clear HO357; clear HO361; clear HO365; clear HB; have HO357 := n0_; have HO361 := n1_; have HO365 := n2_; have HB := n3_; clear n0_ n1_ n2_ n3_; (try clear hb); (try clear hb2); (try clear hk); (try clear hi)) | (go_at_call 14; (with_reducible refine (sprref7_PrintForm.calls kj4 _ _ l1 t369 _ ?side1 ?side2 A22.out).mono ?_); (case side1 => repeat (first | exact (Kd.C_below HR1.out HB.out) | (with_reducible refine Kd.C_alloc ?_ _) | (with_reducible refine Kd.C_drewN ?_ _) | (with_reducible refine Kd.C_drew ?_))); (case side2 => exact HC1.out); rintro e w39 ⟨rfl, hb⟩; have n0_ := Aside0.mk (Kd.R_below (by (with_reducible repeat (first | apply Kd.R_alloc | apply Kd.R_drewN | apply Kd.R_drew)); exact HO357.out) hb); have n1_ := Aside0.mk (Kd.R_below (by (with_reducible repeat (first | apply Kd.R_alloc | apply Kd.R_drewN | apply Kd.R_drew)); exact HO361.out) hb); have n2_ := Aside0.mk (Kd.R_below (by (with_reducible repeat (first | apply Kd.R_alloc | apply Kd.R_drewN | apply Kd.R_drew)); exact HO365.out) hb); have n3_ := Aside0.mk (below_step (by repeat (first | (with_reducible first | exact HB.out | apply below_alloc | apply pw_below_drewN | apply below_drew1) | exact HB.out)) hb); clear HO357; clear HO361; clear HO365; clear HB; have HO357 := n0_; have HO361 := n1_; have HO365 := n2_; have HB := n3_; clear n0_ n1_ n2_ n3_; (try clear hb); (try clear hb2); (try clear hk); (try clear hi)) | (go_at_call 16; (with_reducible refine (query_Names.calls kj4 _ _ y355 t370 _ ?side1 ?side2 A24.out).mono ?_); (case side1 => repeat (first | exact (Kd.R_reads' HO357.out).2.2 | (with_reducible refine Kd.C_alloc ?_ _) | (with_reducible refine Kd.C_drewN ?_ _) | (with_reducible refine Kd.C_drew ?_))); (case side2 => exact (Kd.R_reads' HO357.out).2.1); rintro e w40 ⟨v371, rfl, ho0, hb⟩; have n0_ := Aside0.mk (Kd.R_below (by (with_reducible repeat (first | apply Kd.R_alloc | apply Kd.R_drewN | apply Kd.R_drew)); exact HO357.out) hb); have n1_ := Aside0.mk (Kd.R_below (by (with_reducible repeat (first | apply Kd.R_alloc | apply Kd.R_drewN | apply Kd.R_drew)); exact HO361.out) hb); have n2_ := Aside0.mk (Kd.R_below (by (with_reducible repeat (first | apply Kd.R_alloc | apply Kd.R_drewN | apply Kd.R_drew)); exact HO365.out) hb); have n3_ := Aside0.mk (Kd.R_lower ho0 (below_size (by repeat (first | (with_reducible first | exact HB.out | apply below_alloc | apply pw_below_drewN | apply below_drew1) | exact HB.out)))); have n4_ := Aside0.mk (below_step (by repeat (first | (with_reducible first | exact HB.out | apply below_alloc | apply pw_below_drewN | apply below_drew1) | exact HB.out)) hb); clear HO357; clear HO361; clear HO365; clear HB; have HO357 := n0_; have HO361 := n1_; have HO365 := n2_; have HO372 := n3_; have HB := n4_; clear n0_ n1_ n2_ n3_ n4_; (try clear hb); (try clear hb2); (try clear hk); (try clear hi); (try clear ho0)) | (go_at_call 17; (with_reducible refine (sprref7_Names.calls kj4 _ _ l1 t373 _ ?side1 ?side2 A25.out).mono ?_); (case side1 => repeat (first | exact (Kd.C_below HR1.out HB.out) | (with_reducible refine Kd.C_alloc ?_ _) | (with_reducible refine Kd.C_drewN ?_ _) | (with_reducible refine Kd.C_drew ?_))); (case side2 => exact HC1.out); rintro e w41 ⟨v374, rfl, ho0, hb⟩; have n0_ := Aside0.mk (Kd.R_below (by (with_reducible repeat (first | apply Kd.R_alloc | apply Kd.R_drewN | apply Kd.R_drew)); exact HO357.out) hb); have n1_ := Aside0.mk (Kd.R_below (by (with_reducible repeat (first | apply Kd.R_alloc | apply Kd.R_drewN | apply Kd.R_drew)); exact HO361.out) hb); have n2_ := Aside0.mk (Kd.R_below (by (with_reducible repeat (first | apply Kd.R_alloc | apply Kd.R_drewN | apply Kd.R_drew)); exact HO365.out) hb); have n3_ := Aside0.mk (Kd.R_elder' (by (with_reducible repeat (first | apply Kd.R_alloc | apply Kd.R_drewN | apply Kd.R_drew)); exact HO372.out) (Kd.R_base ho0) hb); have n4_ := Aside0.mk (Kd.R_lower (Kd.R_new' ho0 (Kd.R_lt (by (with_reducible repeat (first | apply Kd.R_alloc | apply Kd.R_drewN | apply Kd.R_drew)); exact HO372.out))) (below_size (by repeat (first | (with_reducible first | exact HB.out | apply below_alloc | apply pw_below_drewN | apply below_drew1) | exact HB.out)))); have n5_ := Aside0.mk (below_step (by repeat (first | (with_reducible first | exact HB.out | apply below_alloc | apply pw_below_drewN | apply below_drew1) | exact HB.out)) hb); clear HO357; clear HO361; clear HO365; clear HO372; clear HB; have HO357 := n0_; have HO361 := n1_; have HO365 := n2_; have HO372 := n3_; have HO375 := n4_; have HB := n5_; clear n0_ n1_ n2_ n3_ n4_ n5_; (try clear hb); (try clear hb2); (try clear hk); (try clear hi); (try clear ho0); obtain ⟨Ao42, co42, eo42⟩ := Kd.R_slice HO372.out; subst eo42; obtain ⟨Ao43, co43, eo43⟩ := Kd.R_slice HO375.out; subst eo43) | (go_at_call 15; (with_reducible refine (sprref_Texts.calls kj4 _ _ t370 _ _ t373 true _ ?side1 ?side2 ?side3 ?side4 A26.out).mono ?_); (case side1 => repeat (first | exact (Kd.R_reads' HO372.out).2.2 | (with_reducible refine Kd.C_alloc ?_ _) | (with_reducible refine Kd.C_drewN ?_ _) | (with_reducible refine Kd.C_drew ?_))); (case side2 => exact (Kd.R_reads' HO372.out).2.1); (case side3 => repeat (first | exact (Kd.R_reads' HO375.out).2.2 | (with_reducible refine Kd.C_alloc ?_ _) | (with_reducible refine Kd.C_drewN ?_ _) | (with_reducible refine Kd.C_drew ?_))); (case side4 => exact (Kd.R_reads' HO375.out).2.1); rintro e w' ⟨rfl, ⟨nd, rfl⟩⟩) | (go_at_call 9; (with_reducible refine (sprref_Pairs.calls kj4 _ _ y355 _ _ l1 t377 _ ?side1 ?side2 ?side3 ?side4 A28.out).mono ?_); (case side1 => repeat (first | exact (Kd.R_reads' HO357.out).2.2 | (with_reducible refine Kd.C_alloc ?_ _) | (with_reducible refine Kd.C_drewN ?_ _) | (with_reducible refine Kd.C_drew ?_))); (case side2 => exact (Kd.R_reads' HO357.out).2.1); (case side3 => repeat (first | exact (Kd.C_below HR1.out (by repeat (first | (with_reducible first | exact HB.out | apply below_alloc | apply pw_below_drewN | apply below_drew1) | exact HB.out))) | (with_reducible refine Kd.C_alloc ?_ _) | (with_reducible refine Kd.C_drewN ?_ _) | (with_reducible refine Kd.C_drew ?_))); (case side4 => exact HC1.out); rintro e w' ⟨rfl, ⟨nd, rfl⟩⟩))
                      go_ret
                      exact ⟨by first | rfl | (simp [errW_none, errW_some] <;> rfl) | (simp [*, errW_none, errW_some] <;> rfl), by repeat (first | (with_reducible first | exact HB.out | apply below_alloc | apply pw_below_drewN | apply below_drew1) | exact HB.out)⟩
                    · replace c27 := Bool.eq_false_iff.mpr c27
                      subst c27
                      have H1 : (some false) = some r := by rw [if_neg (show ¬ (false = true) by decide)] at H; exact H
                      clear H
                      have H := H1
                      clear H1
                      exact absurd ((Option.some.inj H).trans hT.out) (by decide)
                  · rw [if_neg c23] at H
                    have c23b0 : (t368.toList == t369.toList) = false := beq_eq_false_iff_ne.mpr c23
                    have c23b1 : (t368.toList != t369.toList) = true := bne_iff_ne.mpr c23
                    exact absurd ((Option.some.inj H).trans hT.out) (by decide)
                · rw [if_neg c20] at H
                  have c20b0 : (t359 == t363) = false := beq_eq_false_iff_ne.mpr c20
                  have c20b1 : (t359 != t363) = true := bne_iff_ne.mpr c20
                  exact absurd ((Option.some.inj H).trans hT.out) (by decide)
              · replace c19 := Bool.eq_false_iff.mpr c19
                subst c19
                have H1 : (some false) = some r := by rw [if_neg (show ¬ (false = true) by decide)] at H; exact H
                clear H
                have H := H1
                clear H1
                exact absurd ((Option.some.inj H).trans hT.out) (by decide)
            · replace c17 := Bool.eq_false_iff.mpr c17
              subst c17
              have H1 : (some false) = some r := by rw [if_neg (show ¬ (false = true) by decide)] at H; exact H
              clear H
              have H := H1
              clear H1
              exact absurd ((Option.some.inj H).trans hT.out) (by decide)
          · rw [if_neg c13] at H
            exact absurd H (by simp)
  · replace c4 := Bool.eq_false_iff.mpr c4
    subst c4
    have H1 : (some false) = some r := by rw [if_neg (show ¬ (false = true) by decide)] at H; exact H
    clear H
    have H := H1
    clear H1
    exact absurd ((Option.some.inj H).trans hT.out) (by decide)

end Go.Proofs.YtkaegbamkdgjjaaDoor.G
