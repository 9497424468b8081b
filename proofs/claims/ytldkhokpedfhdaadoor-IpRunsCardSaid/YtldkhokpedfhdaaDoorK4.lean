-- Written by a program of this session's (wip/xprint.py), out of the seat's translation.
import Derived.Test.YtldkhokpedfhdaaDoorK0
import Derived.Test.YtldkhokpedfhdaaDoorK1
import Derived.Test.YtldkhokpedfhdaaDoorK2
import Derived.Test.YtldkhokpedfhdaaDoorK3
namespace Go.Proofs.YtldkhokpedfhdaaDoor.K
open Go.RowKit Go.Proofs.YtldkhokpedfhdaaDoorW.PrintWords Go.Proofs.YtldkhokpedfhdaaDoorW.PrintLast Go.Proofs.YtldkhokpedfhdaaDoorW.PrintMore
attribute [local go_sem] max2_int min2_int max_two min_two max_three min_three max_four min_four   -- for this text's walks alone
set_option linter.unusedVariables false
set_option linter.unusedSimpArgs false

/-! ### ip_Parse4: function 13 -/
mutual
def ip_Parse4.l0 : Nat → List Int → List ByteArray → Int → Int → Option (Int × Int)
  | 0, _, _, _, _ => none
  | k + 1, x5, x22, x23, x24 => if x24 < x23 then (if 0 ≤ x24 then (if x24 < (x22.length : Int) then ((ip_part.f k (rdOf ByteArray.empty x22 x24)).bind fun bt157 => (if bt157.2 = true then (if x5.length < 17592186044416 then (ip_Parse4.l0 k (x5 ++ [bt157.1]) x22 x23 (wrap64 (x24 + 1))) else (none)) else (some (0, 4)))) else (none)) else (none)) else (if 0 ≤ (wrap64 ((x5.length : Int) - 1)) then (if (wrap64 ((x5.length : Int) - 1)) < (x5.length : Int) then (if 0 ≤ (wrap64 (8 * (wrap64 (4 - (wrap64 ((x5.length : Int) - 1)))))) then (if (shr .i64 (rd x5 (wrap64 ((x5.length : Int) - 1))) (wrap64 (8 * (wrap64 (4 - (wrap64 ((x5.length : Int) - 1))))))) > 0 then (some (0, 1)) else (if (wrap64 ((x5.length : Int) - 1)) ≤ (x5.length : Int) then ((some (x5.take ((wrap64 ((x5.length : Int) - 1)) : Int).toNat : List Int)).bind fun y163 => (ip_Parse4.l1 k (rd x5 (wrap64 ((x5.length : Int) - 1))) y163 (y163.length : Int) 0)) else (none))) else (none)) else (none)) else (none))
def ip_Parse4.l1 : Nat → Int → List Int → Int → Int → Option (Int × Int)
  | 0, _, _, _, _ => none
  | k + 1, x11, x55, x56, x57 => if x57 < x56 then (if 0 ≤ x57 then (if x57 < (x55.length : Int) then (if (rd x55 x57) > 255 then (some (0, 1)) else (if 0 ≤ (wrap64 (8 * (wrap64 (3 - x57)))) then (ip_Parse4.l1 k (wrap64 (x11 + (shl .i64 (rd x55 x57) (wrap64 (8 * (wrap64 (3 - x57))))))) x55 x56 (wrap64 (x57 + 1))) else (none))) else (none)) else (none)) else (some ((x11) % 4294967296, 0))
end
def ip_Parse4.f (k : Nat) (a0 : ByteArray) : Option (Int × Int) := if (a0.size : Int) > 4000 then (some (0, 11)) else ((ip_parts.f a0).bind fun t153 => (if (t153.length : Int) > 4 then (some (0, 4)) else (ip_Parse4.l0 k ([] : List Int) t153 (t153.length : Int) 0)))
theorem ip_Parse4.mono_l : ∀ k, (∀ y0 y1 y2 y3, LeO (ip_Parse4.l0 k y0 y1 y2 y3) (ip_Parse4.l0 (k + 1) y0 y1 y2 y3)) ∧ (∀ y0 y1 y2 y3, LeO (ip_Parse4.l1 k y0 y1 y2 y3) (ip_Parse4.l1 (k + 1) y0 y1 y2 y3))
  | 0 => ⟨fun _ _ _ _ r h => by simp [ip_Parse4.l0] at h, fun _ _ _ _ r h => by simp [ip_Parse4.l1] at h⟩
  | k + 1 => by
    obtain ⟨ih0, ih1⟩ := ip_Parse4.mono_l k
    refine ⟨?_, ?_⟩
    · intro y0 y1 y2 y3
      unfold ip_Parse4.l0
      repeat' first
      | (with_reducible exact ih0 _ _ _ _)
      | (with_reducible exact ih1 _ _ _ _)
      | (with_reducible exact ip_part.mono _ _)
      | (with_reducible exact LeO.refl _)
      | (with_reducible exact LeO.none _)
      | (with_reducible refine LeO.ite ?_ ?_)
      | (with_reducible refine LeO.bind ?_ (fun _ => ?_))
      | exact ih0 _ _ _ _
      | exact ih1 _ _ _ _
      | exact ip_part.mono _ _
      | exact LeO.none _
      | refine LeO.ite ?_ ?_
      | refine LeO.bind ?_ (fun _ => ?_)
    · intro y0 y1 y2 y3
      unfold ip_Parse4.l1
      repeat' first
      | (with_reducible exact ih0 _ _ _ _)
      | (with_reducible exact ih1 _ _ _ _)
      | (with_reducible exact ip_part.mono _ _)
      | (with_reducible exact LeO.refl _)
      | (with_reducible exact LeO.none _)
      | (with_reducible refine LeO.ite ?_ ?_)
      | (with_reducible refine LeO.bind ?_ (fun _ => ?_))
      | exact ih0 _ _ _ _
      | exact ih1 _ _ _ _
      | exact ip_part.mono _ _
      | exact LeO.none _
      | refine LeO.ite ?_ ?_
      | refine LeO.bind ?_ (fun _ => ?_)
theorem ip_Parse4.mono : ∀ a0 k, LeO (ip_Parse4.f k a0) (ip_Parse4.f (k + 1) a0) := by
  intro a0 k
  obtain ⟨ih0, ih1⟩ := ip_Parse4.mono_l k
  unfold ip_Parse4.f
  repeat' first
      | (with_reducible exact ih0 _ _ _ _)
      | (with_reducible exact ih1 _ _ _ _)
      | (with_reducible exact ip_part.mono _ _)
      | (with_reducible exact LeO.refl _)
      | (with_reducible exact LeO.none _)
      | (with_reducible refine LeO.ite ?_ ?_)
      | (with_reducible refine LeO.bind ?_ (fun _ => ?_))
      | exact ih0 _ _ _ _
      | exact ih1 _ _ _ _
      | exact ip_part.mono _ _
      | exact LeO.none _
      | refine LeO.ite ?_ ?_
      | refine LeO.bind ?_ (fun _ => ?_)
set_option maxHeartbeats 2000000 in
set_option maxRecDepth 100000 in
theorem ip_Parse4.calls (k : Nat) (a0 : ByteArray) (r1 : Int) (r2 : Int) (w : World) (h : ip_Parse4.f k a0 = some (r1, r2)) :
    Calls Tryd.prog 13 #[.string a0] w fun e w' => e = .returned (.tuple #[.int .u32 r1, .int .i64 r2]) ∧ Below w.heap.size w w' := by
  have HB := Aside0.mk (Below.refl w.heap.size w)
  have H : (if (a0.size : Int) > 4000 then (some (0, 11)) else ((ip_parts.f a0).bind fun t153 => (if (t153.length : Int) > 4 then (some (0, 4)) else (ip_Parse4.l0 k ([] : List Int) t153 (t153.length : Int) 0)))) = some (r1, r2) := h
  clear h
  by_cases c2 : (a0.size : Int) > 4000
  · rw [if_pos c2] at H
    have c2b0 : decide (4000 < (a0.size : Int)) = true := decide_eq_true c2
    have c2b1 : decide (4000 < a0.size) = true := decide_eq_true (by omega)
    clear c2
    simp only [Option.some.injEq, Prod.mk.injEq] at H
    obtain ⟨rfl, rfl⟩ := H
    go_enter Tryd.func13, Tryd.ntmps13
    go_wp2
    go_ret2
    exact ⟨by first | rfl | (simp [errW_none, errW_some] <;> rfl) | (simp [*, errW_none, errW_some] <;> rfl), by repeat (first | (with_reducible first | exact HB.out | apply below_alloc | apply pw_below_drewN | apply below_drew1) | exact HB.out)⟩
  · rw [if_neg c2] at H
    have c2b0 : decide (4000 < (a0.size : Int)) = false := decide_eq_false c2
    have c2b1 : decide (4000 < a0.size) = false := decide_eq_false (by omega)
    clear c2
    replace H := Option.bind_eq_some_iff.mp H
    obtain ⟨t153, A30, H⟩ := H
    replace H : (if (t153.length : Int) > 4 then (some (0, 4)) else (ip_Parse4.l0 k ([] : List Int) t153 (t153.length : Int) 0)) = some (r1, r2) := H
    have A3 := Aside0.mk A30
    clear A30
    by_cases c4 : (t153.length : Int) > 4
    · rw [if_pos c4] at H
      have c4b0 : decide (4 < (t153.length : Int)) = true := decide_eq_true c4
      have c4b1 : decide (4 < t153.length) = true := decide_eq_true (by omega)
      clear c4
      simp only [Option.some.injEq, Prod.mk.injEq] at H
      obtain ⟨rfl, rfl⟩ := H
      go_enter Tryd.func13, Tryd.ntmps13
      go_wp2_with (first | ((with_reducible refine gate_callee (f := 25) rfl ?_); refine goesL_ (some 18) rfl rfl Tryd.func25 (by kernel_rfl) rfl #[.string a0] rfl (by (try simp only [List.map_toArray, List.map_cons, List.map_nil]); first | done | rfl | (simp only [List.length_drop, List.length_take]; rfl)) ?_; (with_reducible refine (ip_parts.calls a0 t153 _ A3.out).mono ?_); rintro e w5 ⟨v154, rfl, ho0, hb⟩; refine ⟨_, rfl, ?_⟩; have n0_ := Aside0.mk (Kd.R_lower ho0 (below_size (by repeat (first | (with_reducible first | exact HB.out | apply below_alloc | apply pw_below_drewN | apply below_drew1) | exact HB.out)))); have n1_ := Aside0.mk (below_step (by repeat (first | (with_reducible first | exact HB.out | apply below_alloc | apply pw_below_drewN | apply below_drew1) | exact HB.out)) hb); clear HB; have HO155 := n0_; have HB := n1_; clear n0_ n1_; (try clear hb); (try clear hb2); (try clear hk); (try clear hi); (try clear ho0); obtain ⟨Ao6, co6, eo6⟩ := Kd.R_slice HO155.out; subst eo6))
      go_ret2
      exact ⟨by first | rfl | (simp [errW_none, errW_some] <;> rfl) | (simp [*, errW_none, errW_some] <;> rfl), by repeat (first | (with_reducible first | exact HB.out | apply below_alloc | apply pw_below_drewN | apply below_drew1) | exact HB.out)⟩
    · rw [if_neg c4] at H
      have c4b0 : decide (4 < (t153.length : Int)) = false := decide_eq_false c4
      have c4b1 : decide (4 < t153.length) = false := decide_eq_false (by omega)
      clear c4
      have H' := Aside0.mk H
      clear H
      go_enter Tryd.func13, Tryd.ntmps13
      go_wp2_with (first | ((with_reducible refine gate_callee (f := 25) rfl ?_); refine goesL_ (some 18) rfl rfl Tryd.func25 (by kernel_rfl) rfl #[.string a0] rfl (by (try simp only [List.map_toArray, List.map_cons, List.map_nil]); first | done | rfl | (simp only [List.length_drop, List.length_take]; rfl)) ?_; (with_reducible refine (ip_parts.calls a0 t153 _ A3.out).mono ?_); rintro e w7 ⟨v154, rfl, ho0, hb⟩; refine ⟨_, rfl, ?_⟩; have n0_ := Aside0.mk (Kd.R_lower ho0 (below_size (by repeat (first | (with_reducible first | exact HB.out | apply below_alloc | apply pw_below_drewN | apply below_drew1) | exact HB.out)))); have n1_ := Aside0.mk (below_step (by repeat (first | (with_reducible first | exact HB.out | apply below_alloc | apply pw_below_drewN | apply below_drew1) | exact HB.out)) hb); clear HB; have HO155 := n0_; have HB := n1_; clear n0_ n1_; (try clear hb); (try clear hb2); (try clear hk); (try clear hi); (try clear ho0); obtain ⟨Ao8, co8, eo8⟩ := Kd.R_slice HO155.out; subst eo8))
      go_loopg [5, 24] k (fun kq v5 v24 w' => ∃ (x5_1 : List Int) (x24_1 : Int), v24 = .int .i64 x24_1 ∧ Aside0 (ip_Parse4.l0 kq x5_1 t153 (t153.length : Int) x24_1 = some (r1, r2)) ∧ Aside0 (kq ≤ k) ∧ Aside0 (Kd.R (Kd.int .i64) 3 w' w.heap.size (fun _ => True) v5 x5_1) ∧ Aside0 (Kd.R Kd.string 9 w' w.heap.size (fun _ => True) (.slice Ao8 t153.length co8) t153) ∧ Aside0 (Below w.heap.size w w'))
      case atStart => exact ⟨(([] : List Int)), (0), (by first | rfl | (simp; done) | (simp [*]; done)), H', ⟨Nat.le_refl _⟩, ⟨by first | exact Kd.R_nil _ _ _ _ _ | exact Kd.N_nil _ _ _ _ _ | exact Kd.V_nil _ _ _ _ _ | exact Kd.Q_nil _ _ _ _ _ | exact Kd.S_nil _ _ _ _ _⟩, ⟨by (with_reducible repeat (first | apply Kd.R_alloc | apply Kd.R_drewN | apply Kd.R_drew)); exact HO155.out⟩, ⟨by repeat (first | (with_reducible first | exact HB.out | apply below_alloc | apply pw_below_drewN | apply below_drew1) | exact HB.out)⟩⟩
      case round =>
        clear H'
        try clear c1
        try clear c2
        try clear c2b0
        try clear c2b1
        try clear p2
        try clear c4
        try clear c4b0
        try clear c4b1
        obtain ⟨x5_1, x24_1, rfl, HA, HK1, HO_5, HO_22, HB⟩ := hrel
        cases gk with
        | zero => exact absurd HA.out (by simp [ip_Parse4.l0])
        | succ k1 =>
          have H := HA.out
          clear HA
          simp only [ip_Parse4.l0] at H
          by_cases c9 : x24_1 < (t153.length : Int)
          · rw [if_pos c9] at H
            have c9b0 : decide (x24_1 < (t153.length : Int)) = true := decide_eq_true c9
            clear c9
            by_cases c10 : 0 ≤ x24_1
            · rw [if_pos c10] at H
              have c10b0 : decide (0 ≤ x24_1) = true := decide_eq_true c10
              clear c10
              by_cases c11 : x24_1 < (t153.length : Int)
              · rw [if_pos c11] at H
                have c11b0 : decide (x24_1 < (t153.length : Int)) = true := decide_eq_true c11
                clear c11
                replace H := Option.bind_eq_some_iff.mp H
                obtain ⟨⟨t157, t158⟩, A120, H⟩ := H
                replace H : (if t158 = true then (if x5_1.length < 17592186044416 then (ip_Parse4.l0 k1 (x5_1 ++ [t157]) t153 (t153.length : Int) (wrap64 (x24_1 + 1))) else (none)) else (some (0, 4))) = some (r1, r2) := H
                have A12 := Aside0.mk A120
                clear A120
                by_cases c13 : t158 = true
                · subst c13
                  have H1 : (if x5_1.length < 17592186044416 then (ip_Parse4.l0 k1 (x5_1 ++ [t157]) t153 (t153.length : Int) (wrap64 (x24_1 + 1))) else (none)) = some (r1, r2) := by rw [if_pos rfl] at H; exact H
                  clear H
                  have H := H1
                  clear H1
                  by_cases c14 : x5_1.length < 17592186044416
                  · rw [if_pos c14] at H
                    have LMc14 := Aside0.mk c14
                    clear c14
                    obtain ⟨y159, hy159⟩ : ∃ y_ : List Int, y_ = (x5_1 ++ [t157]) := ⟨_, rfl⟩
                    replace H : (ip_Parse4.l0 k1 y159 t153 (t153.length : Int) (wrap64 (x24_1 + 1))) = some (r1, r2) := by first | (rw [hy159]; with_reducible exact H) | (have H2_ := (Option.bind_some _ _).symm.trans H; rw [hy159]; with_reducible exact H2_) | (have H2_ := (Option.bind_some _ _).symm.trans H; with_reducible exact H2_) | with_reducible exact H | (rw [hy159]; exact H) | exact H
                    have Ny159 := Aside0.mk hy159
                    clear hy159
                    have H' := Aside0.mk H
                    clear H
                    have p156 : 0 ≤ (x24_1 : Int) := of_decide_eq_true (by first | (with_reducible assumption) | assumption)
                    have q156 : x24_1 < (t153.length : Int) := of_decide_eq_true (by first | (with_reducible assumption) | assumption)
                    obtain ⟨ad156, e156, hx156_0⟩ := Kd.at_string (Kd.R_reads' HO_22.out).2.2 x24_1 p156 q156
                    cases e156
                    replace p156 := eq_true p156
                    replace q156 := eq_true q156
                    go_wp2_with (first | ((with_reducible refine gate_callee (f := 26) rfl ?_); refine goesL_ (some 30) rfl rfl Tryd.func26 (by kernel_rfl) rfl #[.string (rdOf ByteArray.empty t153 x24_1)] rfl (by (try simp only [List.map_toArray, List.map_cons, List.map_nil]); first | done | rfl | (simp only [List.length_drop, List.length_take]; rfl)) ?_; (with_reducible refine (ip_part.calls k1 (rdOf ByteArray.empty t153 x24_1) t157 true _ A12.out).mono ?_); rintro e w15 ⟨rfl, hb⟩; refine ⟨_, rfl, ?_⟩; have n0_ := Aside0.mk (Kd.R_below (by (with_reducible repeat (first | apply Kd.R_alloc | apply Kd.R_drewN | apply Kd.R_drew)); exact HO_5.out) hb); have n1_ := Aside0.mk (Kd.R_below (by (with_reducible repeat (first | apply Kd.R_alloc | apply Kd.R_drewN | apply Kd.R_drew)); exact HO_22.out) hb); have n2_ := Aside0.mk (below_step (by repeat (first | (with_reducible first | exact HB.out | apply below_alloc | apply pw_below_drewN | apply below_drew1) | exact HB.out)) hb); clear HO_5; clear HO_22; clear HB; have HO_5 := n0_; have HO_22 := n1_; have HB := n2_; clear n0_ n1_ n2_; (try clear hb); (try clear hb2); (try clear hk); (try clear hi)) | ((with_reducible refine gate_builtin (b := .append) (xs := #[.tmp 35, .tmp 37]) rfl ?_); at_builtin; refine Kd.R_append (Kd.int .i64) (w0 := w) w.heap.size rfl (.tmp 35) (.tmp 37) 53 3 (.int .i64 0) 8 rfl Tryd.underlying53 info3 rfl (by decide) (by omega) u5 x5_1 t157 [.int .i64 t157] (fun _ => True) (fun _ => False) rfl rfl ?aP (fun _ hk => hk.elim) ?aF ?aO ?aB ?aS ?aL ?_; (case aP => exact rfl); (case aB => exact (by repeat (first | (with_reducible first | exact HB.out | apply below_alloc | apply pw_below_drewN | apply below_drew1) | exact HB.out))); (case aF => exact (fun _ _ => trivial)); (case aO => exact (by (with_reducible repeat (first | apply Kd.R_alloc | apply Kd.R_drewN | apply Kd.R_drew)); exact HO_5.out)); (case aS => exact (below_size (by repeat (first | (with_reducible first | exact HB.out | apply below_alloc | apply pw_below_drewN | apply below_drew1) | exact HB.out)))); (case aL => have := LMc14.out; omega); intro v160 w16 ho hb hg hat; rw [← Ny159.out] at ho; have n0_ := Aside0.mk (Kd.R_over' (by (with_reducible repeat (first | apply Kd.R_alloc | apply Kd.R_drewN | apply Kd.R_drew)); exact HO_22.out) (Kd.R_typed (by (with_reducible repeat (first | apply Kd.R_alloc | apply Kd.R_drewN | apply Kd.R_drew)); exact HO_5.out)) (by decide) hg); have n1_ := Aside0.mk (hb); have n2_ := Aside0.mk (ho); clear HO_22; clear HB; clear HO_5; have HO_22 := n0_; have HB := n1_; have HO161 := n2_; clear n0_ n1_ n2_; clear ho hb hg hat))
                    go_roundg k1
                    case measure => have := HK1.out; omega
                    case rel => exact ⟨(y159), (wrap64 (x24_1 + 1)), (by first | rfl | (simp; done) | (simp [*]; done)), H', ⟨by have := HK1.out; omega⟩, ⟨by (with_reducible repeat (first | apply Kd.R_alloc | apply Kd.R_drewN | apply Kd.R_drew)); exact HO161.out⟩, ⟨by (with_reducible repeat (first | apply Kd.R_alloc | apply Kd.R_drewN | apply Kd.R_drew)); exact HO_22.out⟩, ⟨by repeat (first | (with_reducible first | exact HB.out | apply below_alloc | apply pw_below_drewN | apply below_drew1) | exact HB.out)⟩⟩
                  · rw [if_neg c14] at H
                    exact absurd H (by simp)
                · replace c13 := Bool.eq_false_iff.mpr c13
                  subst c13
                  have H1 : (some (0, 4)) = some (r1, r2) := by rw [if_neg (show ¬ (false = true) by decide)] at H; exact H
                  clear H
                  have H := H1
                  clear H1
                  simp only [Option.some.injEq, Prod.mk.injEq] at H
                  obtain ⟨rfl, rfl⟩ := H
                  have p156 : 0 ≤ (x24_1 : Int) := of_decide_eq_true (by first | (with_reducible assumption) | assumption)
                  have q156 : x24_1 < (t153.length : Int) := of_decide_eq_true (by first | (with_reducible assumption) | assumption)
                  obtain ⟨ad156, e156, hx156_0⟩ := Kd.at_string (Kd.R_reads' HO_22.out).2.2 x24_1 p156 q156
                  cases e156
                  replace p156 := eq_true p156
                  replace q156 := eq_true q156
                  go_wp2_with (first | ((with_reducible refine gate_callee (f := 26) rfl ?_); refine goesL_ (some 30) rfl rfl Tryd.func26 (by kernel_rfl) rfl #[.string (rdOf ByteArray.empty t153 x24_1)] rfl (by (try simp only [List.map_toArray, List.map_cons, List.map_nil]); first | done | rfl | (simp only [List.length_drop, List.length_take]; rfl)) ?_; (with_reducible refine (ip_part.calls k1 (rdOf ByteArray.empty t153 x24_1) t157 false _ A12.out).mono ?_); rintro e w17 ⟨rfl, hb⟩; refine ⟨_, rfl, ?_⟩; have n0_ := Aside0.mk (Kd.R_below (by (with_reducible repeat (first | apply Kd.R_alloc | apply Kd.R_drewN | apply Kd.R_drew)); exact HO_5.out) hb); have n1_ := Aside0.mk (Kd.R_below (by (with_reducible repeat (first | apply Kd.R_alloc | apply Kd.R_drewN | apply Kd.R_drew)); exact HO_22.out) hb); have n2_ := Aside0.mk (below_step (by repeat (first | (with_reducible first | exact HB.out | apply below_alloc | apply pw_below_drewN | apply below_drew1) | exact HB.out)) hb); clear HO_5; clear HO_22; clear HB; have HO_5 := n0_; have HO_22 := n1_; have HB := n2_; clear n0_ n1_ n2_; (try clear hb); (try clear hb2); (try clear hk); (try clear hi)))
                  go_ret2
                  exact ⟨by first | rfl | (simp [errW_none, errW_some] <;> rfl) | (simp [*, errW_none, errW_some] <;> rfl), by repeat (first | (with_reducible first | exact HB.out | apply below_alloc | apply pw_below_drewN | apply below_drew1) | exact HB.out)⟩
              · rw [if_neg c11] at H
                exact absurd H (by simp)
            · rw [if_neg c10] at H
              exact absurd H (by simp)
          · rw [if_neg c9] at H
            have c9b0 : decide (x24_1 < (t153.length : Int)) = false := decide_eq_false c9
            clear c9
            obtain ⟨ji18, hji18⟩ : ∃ j_ : Int, (wrap64 ((x5_1.length : Int) - 1)) = j_ := ⟨_, rfl⟩
            replace H : (if 0 ≤ (ji18) then (if (ji18) < (x5_1.length : Int) then (if 0 ≤ (wrap64 (8 * (wrap64 (4 - (ji18))))) then (if (shr .i64 (rd x5_1 (ji18)) (wrap64 (8 * (wrap64 (4 - (ji18)))))) > 0 then (some (0, 1)) else (if (ji18) ≤ (x5_1.length : Int) then ((some (x5_1.take ((ji18) : Int).toNat : List Int)).bind fun y163 => (ip_Parse4.l1 k1 (rd x5_1 (ji18)) y163 (y163.length : Int) 0)) else (none))) else (none)) else (none)) else (none)) = some (r1, r2) := by first | (rw [hji18] at H; exact H) | (simp only [hji18] at H ⊢; exact H)
            have hji18w : (IntKind.i64.wrap ((x5_1.length : Int) - 1)) = ji18 := (i64_w _).trans hji18
            by_cases c19 : 0 ≤ (ji18)
            · rw [if_pos c19] at H
              have c19b0 : decide (0 ≤ (ji18)) = true := decide_eq_true c19
              clear c19
              by_cases c20 : (ji18) < (x5_1.length : Int)
              · rw [if_pos c20] at H
                have c20b0 : decide ((ji18) < (x5_1.length : Int)) = true := decide_eq_true c20
                clear c20
                obtain ⟨ji21, hji21⟩ : ∃ j_ : Int, (wrap64 (8 * (wrap64 (4 - (ji18))))) = j_ := ⟨_, rfl⟩
                replace H : (if 0 ≤ (ji21) then (if (shr .i64 (rd x5_1 (ji18)) (ji21)) > 0 then (some (0, 1)) else (if (ji18) ≤ (x5_1.length : Int) then ((some (x5_1.take ((ji18) : Int).toNat : List Int)).bind fun y163 => (ip_Parse4.l1 k1 (rd x5_1 (ji18)) y163 (y163.length : Int) 0)) else (none))) else (none)) = some (r1, r2) := by first | (rw [hji21] at H; exact H) | (simp only [hji21] at H ⊢; exact H)
                have hji21w : (IntKind.i64.wrap (8 * (wrap64 (4 - (ji18))))) = ji21 := (i64_w _).trans hji21
                by_cases c22 : 0 ≤ (ji21)
                · rw [if_pos c22] at H
                  have c22b0 := eq_true c22
                  have c22b1 : decide (0 ≤ (ji21)) = true := decide_eq_true c22
                  clear c22
                  obtain ⟨ji23, hji23⟩ : ∃ j_ : Int, (shr .i64 (rd x5_1 (ji18)) (ji21)) = j_ := ⟨_, rfl⟩
                  replace H : (if (ji23) > 0 then (some (0, 1)) else (if (ji18) ≤ (x5_1.length : Int) then ((some (x5_1.take ((ji18) : Int).toNat : List Int)).bind fun y163 => (ip_Parse4.l1 k1 (rd x5_1 (ji18)) y163 (y163.length : Int) 0)) else (none))) = some (r1, r2) := by first | (rw [hji23] at H; exact H) | (simp only [hji23] at H ⊢; exact H)
                  have hji23_ : ((rd x5_1 (ji18)) / 2 ^ min (ji21).toNat 64) = ji23 := hji23
                  have hji23z : (ji21) ≤ 64 → ((rd x5_1 (ji18)) / 2 ^ (ji21).toNat) = ji23 := shr_small hji23
                  by_cases c24 : (ji23) > 0
                  · rw [if_pos c24] at H
                    have c24b0 : decide (0 < (ji23)) = true := decide_eq_true c24
                    clear c24
                    simp only [Option.some.injEq, Prod.mk.injEq] at H
                    obtain ⟨rfl, rfl⟩ := H
                    obtain ⟨Ao25, co25, eo25⟩ := Kd.R_slice HO_5.out
                    subst eo25
                    have p162 : 0 ≤ ((ji18) : Int) := of_decide_eq_true (by first | (with_reducible assumption) | assumption)
                    have q162 : (ji18) < (x5_1.length : Int) := of_decide_eq_true (by first | (with_reducible assumption) | assumption)
                    obtain ⟨ad162, e162, hx162_0⟩ := Kd.at_int (Kd.R_reads' HO_5.out).2.2 (ji18) p162 q162
                    cases e162
                    replace p162 := eq_true p162
                    replace q162 := eq_true q162
                    go_wp2
                    go_ret2
                    exact ⟨by first | rfl | (simp [errW_none, errW_some] <;> rfl) | (simp only [← hji18, ← hji21, ← hji23]; first | rfl | (simp [errW_none, errW_some] <;> rfl)) | (simp [*, errW_none, errW_some] <;> rfl), by repeat (first | (with_reducible first | exact HB.out | apply below_alloc | apply pw_below_drewN | apply below_drew1) | exact HB.out)⟩
                  · rw [if_neg c24] at H
                    have c24b0 : decide (0 < (ji23)) = false := decide_eq_false c24
                    clear c24
                    have c26b0 := eq_true (of_decide_eq_true (by first | (with_reducible assumption) | assumption) : 0 ≤ (ji18))
                    by_cases c27 : (ji18) ≤ (x5_1.length : Int)
                    · rw [if_pos c27] at H
                      have c27b0 := eq_true c27
                      have c27b1 : decide ((ji18) ≤ (x5_1.length : Int)) = true := decide_eq_true c27
                      clear c27
                      obtain ⟨y163, hy163⟩ : ∃ y_ : List Int, y_ = (x5_1.take ((ji18) : Int).toNat) := ⟨_, rfl⟩
                      replace H : (ip_Parse4.l1 k1 (rd x5_1 (ji18)) y163 (y163.length : Int) 0) = some (r1, r2) := by first | (rw [hy163]; with_reducible exact H) | (have H2_ := (Option.bind_some _ _).symm.trans H; rw [hy163]; with_reducible exact H2_) | (have H2_ := (Option.bind_some _ _).symm.trans H; with_reducible exact H2_) | with_reducible exact H | (rw [hy163]; exact H) | exact H
                      have Ny163 := Aside0.mk hy163
                      clear hy163
                      have H' := Aside0.mk H
                      clear H
                      obtain ⟨Ao28, co28, eo28⟩ := Kd.R_slice HO_5.out
                      subst eo28
                      have p162 : 0 ≤ ((ji18) : Int) := of_decide_eq_true (by first | (with_reducible assumption) | assumption)
                      have q162 : (ji18) < (x5_1.length : Int) := of_decide_eq_true (by first | (with_reducible assumption) | assumption)
                      obtain ⟨ad162, e162, hx162_0⟩ := Kd.at_int (Kd.R_reads' HO_5.out).2.2 (ji18) p162 q162
                      cases e162
                      replace p162 := eq_true p162
                      replace q162 := eq_true q162
                      have q29 : ((ji18) : Int) ≤ ((x5_1.length : Int) : Int) := of_decide_eq_true (by first | (with_reducible assumption) | assumption)
                      obtain ⟨i029, hi029, _, hsz29, _⟩ := info_parts info3
                      have hroom29 : x5_1.length ≤ co28 := (Kd.R_reads' HO_5.out).2.1
                      have hC29 : Kd.C (Kd.int .i64) _ (some ad162) x5_1.length x5_1 := (Kd.R_reads' HO_5.out).2.2
                      have hcut29 := cut_to (P := Tryd.prog) 53 3 .i64 Tryd.underlying53 hi029 (some ad162) x5_1.length co28 (ji18) (of_decide_eq_true (by first | (with_reducible assumption) | assumption)) q29 hroom29
                      have hr29 := Kd.C_take (m := ((ji18) : Int).toNat) hC29 (by omega)
                      have hy29 : y163.length = ((ji18) : Int).toNat := (by rw [Ny163.out, List.length_take]; omega)
                      rw [← Ny163.out] at hr29
                      rw [← hy29] at hcut29
                      have HR166 := Aside0.mk hr29
                      have HC166 := Aside0.mk (show y163.length ≤ co28 from by omega)
                      clear hr29 hC29 hroom29 hi029 hsz29
                      have KY29 := Aside0.mk hy29
                      clear hy29
                      have KL29 := Aside0.mk (show ((ji18) : Int).toNat ≤ x5_1.length from by omega)
                      replace q29 := eq_true q29
                      go_wp2
                      go_loopg [11, 57] k1 (fun kq v11 v57 w' => ∃ (x11_2 : Int) (x57_2 : Int), v11 = .int .i64 x11_2 ∧ v57 = .int .i64 x57_2 ∧ Aside0 (ip_Parse4.l1 kq x11_2 y163 (y163.length : Int) x57_2 = some (r1, r2)) ∧ Aside0 (kq ≤ k1) ∧ Aside0 (Kd.C (Kd.int .i64) w' (some ad162) y163.length y163) ∧ Aside0 (Below w.heap.size w w'))
                      case atStart => exact ⟨(rd x5_1 (ji18)), (0), (by first | rfl | (simp; done) | (simp only [← hji18] <;> (first | rfl | simp)) | (simp [*]; done)), (by first | rfl | (simp; done) | (simp [*]; done)), H', ⟨Nat.le_refl _⟩, ⟨by repeat (first | (with_reducible exact HR166.out) | (with_reducible refine Kd.C_alloc ?_ _) | (with_reducible refine Kd.C_drewN ?_ _) | (with_reducible refine Kd.C_drew ?_) | exact HR166.out)⟩, ⟨by repeat (first | (with_reducible first | exact HB.out | apply below_alloc | apply pw_below_drewN | apply below_drew1) | exact HB.out)⟩⟩
                      case round =>
                        clear H'
                        try clear c1
                        try clear p1
                        try clear q1
                        try clear hx1
                        try clear c2
                        try clear c2b0
                        try clear c2b1
                        try clear p2
                        try clear q2
                        try clear c4
                        try clear c4b0
                        try clear c4b1
                        try clear p6
                        try clear c9
                        try clear c9b0
                        try clear c10
                        try clear c10b0
                        try clear c11
                        try clear c11b0
                        try clear c13
                        try clear c14
                        try clear p15
                        try clear q15
                        try clear hx15
                        try clear p16
                        try clear q16
                        try clear hx16
                        try clear c19
                        try clear c19b0
                        try clear c20
                        try clear c20b0
                        try clear c22
                        try clear c22b0
                        try clear c22b1
                        try clear c24
                        try clear c24b0
                        try clear c25
                        try clear c26
                        try clear c26b0
                        try clear c27
                        try clear c27b0
                        try clear c27b1
                        try clear q29
                        try clear hx156_0
                        try clear hx162_0
                        try clear p156
                        try clear p162
                        try clear p2
                        try clear q156
                        try clear q162
                        try clear q29
                        obtain ⟨x11_2, x57_2, rfl, rfl, HA, HK2, HR166, HB⟩ := hrel
                        cases gk with
                        | zero => exact absurd HA.out (by simp [ip_Parse4.l1])
                        | succ k2 =>
                          have H := HA.out
                          clear HA
                          simp only [ip_Parse4.l1] at H
                          by_cases c30 : x57_2 < (y163.length : Int)
                          · rw [if_pos c30] at H
                            have c30b0 : decide (x57_2 < (y163.length : Int)) = true := decide_eq_true c30
                            clear c30
                            by_cases c31 : 0 ≤ x57_2
                            · rw [if_pos c31] at H
                              have c31b0 : decide (0 ≤ x57_2) = true := decide_eq_true c31
                              clear c31
                              by_cases c32 : x57_2 < (y163.length : Int)
                              · rw [if_pos c32] at H
                                have c32b0 : decide (x57_2 < (y163.length : Int)) = true := decide_eq_true c32
                                clear c32
                                by_cases c33 : (rd y163 x57_2) > 255
                                · rw [if_pos c33] at H
                                  have c33b0 : decide (255 < (rd y163 x57_2)) = true := decide_eq_true c33
                                  clear c33
                                  simp only [Option.some.injEq, Prod.mk.injEq] at H
                                  obtain ⟨rfl, rfl⟩ := H
                                  have p167 : 0 ≤ (x57_2 : Int) := of_decide_eq_true (by first | (with_reducible assumption) | assumption)
                                  have q167 : x57_2 < (y163.length : Int) := of_decide_eq_true (by first | (with_reducible assumption) | assumption)
                                  obtain ⟨ad167, e167, hx167_0⟩ := Kd.at_int HR166.out x57_2 p167 q167
                                  obtain rfl : ad162 = ad167 := (by injection e167)
                                  replace p167 := eq_true p167
                                  replace q167 := eq_true q167
                                  go_wp2
                                  go_ret2
                                  exact ⟨by first | rfl | (simp [errW_none, errW_some] <;> rfl) | (simp only [← hji18, ← hji21, ← hji23]; first | rfl | (simp [errW_none, errW_some] <;> rfl)) | (simp [*, errW_none, errW_some] <;> rfl), by repeat (first | (with_reducible first | exact HB.out | apply below_alloc | apply pw_below_drewN | apply below_drew1) | exact HB.out)⟩
                                · rw [if_neg c33] at H
                                  have c33b0 : decide (255 < (rd y163 x57_2)) = false := decide_eq_false c33
                                  clear c33
                                  obtain ⟨ji34, hji34⟩ : ∃ j_ : Int, (wrap64 (8 * (wrap64 (3 - x57_2)))) = j_ := ⟨_, rfl⟩
                                  replace H : (if 0 ≤ (ji34) then (ip_Parse4.l1 k2 (wrap64 (x11_2 + (shl .i64 (rd y163 x57_2) (ji34)))) y163 (y163.length : Int) (wrap64 (x57_2 + 1))) else (none)) = some (r1, r2) := by first | (rw [hji34] at H; exact H) | (simp only [hji34] at H ⊢; exact H)
                                  have hji34w : (IntKind.i64.wrap (8 * (wrap64 (3 - x57_2)))) = ji34 := (i64_w _).trans hji34
                                  by_cases c35 : 0 ≤ (ji34)
                                  · rw [if_pos c35] at H
                                    have c35b0 := eq_true c35
                                    have c35b1 : decide (0 ≤ (ji34)) = true := decide_eq_true c35
                                    clear c35
                                    obtain ⟨ji36, hji36⟩ : ∃ j_ : Int, (shl .i64 (rd y163 x57_2) (ji34)) = j_ := ⟨_, rfl⟩
                                    replace H : (ip_Parse4.l1 k2 (wrap64 (x11_2 + (ji36))) y163 (y163.length : Int) (wrap64 (x57_2 + 1))) = some (r1, r2) := by first | (rw [hji36] at H; exact H) | (simp only [hji36] at H ⊢; exact H)
                                    have hji36_ : (IntKind.i64.wrap ((rd y163 x57_2) * 2 ^ min (ji34).toNat 64)) = ji36 := hji36
                                    have hji36z : (ji34) ≤ 64 → (IntKind.i64.wrap ((rd y163 x57_2) * 2 ^ (ji34).toNat)) = ji36 := shl_small hji36
                                    have hji36y : (wrap64 ((rd y163 x57_2) * 2 ^ min (ji34).toNat 64)) = ji36 := (i64_w _).symm.trans hji36_
                                    have hji36x : (ji34) ≤ 64 → (wrap64 ((rd y163 x57_2) * 2 ^ (ji34).toNat)) = ji36 := fun h_ => (i64_w _).symm.trans (hji36z h_)
                                    have H' := Aside0.mk H
                                    clear H
                                    have p167 : 0 ≤ (x57_2 : Int) := of_decide_eq_true (by first | (with_reducible assumption) | assumption)
                                    have q167 : x57_2 < (y163.length : Int) := of_decide_eq_true (by first | (with_reducible assumption) | assumption)
                                    obtain ⟨ad167, e167, hx167_0⟩ := Kd.at_int HR166.out x57_2 p167 q167
                                    obtain rfl : ad162 = ad167 := (by injection e167)
                                    replace p167 := eq_true p167
                                    replace q167 := eq_true q167
                                    go_wp2
                                    go_roundg k2
                                    case measure => have := HK1.out; have := HK2.out; omega
                                    case rel => exact ⟨(wrap64 (x11_2 + (ji36))), (wrap64 (x57_2 + 1)), (by first | rfl | (simp; done) | (simp only [← hji36] <;> (first | rfl | simp)) | (simp [*]; done)), (by first | rfl | (simp; done) | (simp [*]; done)), H', ⟨by have := HK1.out; have := HK2.out; omega⟩, ⟨by repeat (first | (with_reducible exact HR166.out) | (with_reducible refine Kd.C_alloc ?_ _) | (with_reducible refine Kd.C_drewN ?_ _) | (with_reducible refine Kd.C_drew ?_) | exact HR166.out)⟩, ⟨by repeat (first | (with_reducible first | exact HB.out | apply below_alloc | apply pw_below_drewN | apply below_drew1) | exact HB.out)⟩⟩
                                  · rw [if_neg c35] at H
                                    exact absurd H (by simp)
                              · rw [if_neg c32] at H
                                exact absurd H (by simp)
                            · rw [if_neg c31] at H
                              exact absurd H (by simp)
                          · rw [if_neg c30] at H
                            have c30b0 : decide (x57_2 < (y163.length : Int)) = false := decide_eq_false c30
                            clear c30
                            simp only [Option.some.injEq, Prod.mk.injEq] at H
                            obtain ⟨rfl, rfl⟩ := H
                            go_wp2
                            go_ret2
                            exact ⟨by first | rfl | (simp [errW_none, errW_some] <;> rfl) | (simp only [← hji18, ← hji21, ← hji23]; first | rfl | (simp [errW_none, errW_some] <;> rfl)) | (simp [*, errW_none, errW_some] <;> rfl), by repeat (first | (with_reducible first | exact HB.out | apply below_alloc | apply pw_below_drewN | apply below_drew1) | exact HB.out)⟩
                    · rw [if_neg c27] at H
                      exact absurd H (by simp)
                · rw [if_neg c22] at H
                  exact absurd H (by simp)
              · rw [if_neg c20] at H
                exact absurd H (by simp)
            · rw [if_neg c19] at H
              exact absurd H (by simp)

/-! ### sprlaw7_first: function 9 -/
theorem ip_first.v0 : ip_Parse4.f 60 ⟨#[48, 120, 55, 102, 46, 49]⟩ = some (2130706433, 0) := by kernel_rfl
theorem ip_first.v1 : ip_Parse6.g 60 ⟨#[58, 58, 49, 46, 50, 46, 51, 46, 52]⟩ = some ([0, 0, 0, 0, 0, 0, 258, 772], 0) := by kernel_rfl
theorem ip_first.v2 : ip_Parse6.g 60 ⟨#[49, 58, 58, 58, 50]⟩ = some (zero8, 4) := by kernel_rfl
theorem ip_first.v3 : ip_Print6.g 60 [1, 0, 0, 0, 0, 0, 0, 1] = some ⟨#[49, 58, 58, 49]⟩ := by kernel_rfl
set_option maxHeartbeats 2000000 in
set_option maxRecDepth 100000 in
theorem ip_first.own (w : World) (hT : Own.ipW w) :
    Calls Tryd.prog 9 #[] w fun e w' => e = .returned (.bool true) ∧ Below w.heap.size w w' := by
  have HT := Aside0.mk hT
  have hB0 := Aside0.mk (Below.refl w.heap.size w)
  have T0 := Aside0.mk trivial
  have hu := Tryd.underlying23
  go_enter Tryd.func9, Tryd.ntmps9
  have hi0 : (Tryd.prog.info? 23).map (·.size) = some (arrV zero8).size := by kernel_rfl
  go_wp2_with (first | (clear T0; go_at_call 13; (with_reducible refine (ip_Parse4.calls 60 _ _ _ _ ip_first.v0).mono ?_); rintro e w1 ⟨rfl, hb⟩; have HB1 := Aside0.mk (hB0.out.trans (hb.mono hB0.out.size)); clear hb hB0; have T1 := Aside0.mk trivial) | (clear T1; go_at_call 12; (with_reducible refine (ip_Parse6.gcalls 60 _ _ _ _ ip_first.v1 (Own.ipW_below HT.out HB1.out)).mono ?_); rintro e w2 ⟨rfl, hb⟩; have HB2 := Aside0.mk (HB1.out.trans (hb.mono HB1.out.size)); clear hb HB1; have T2 := Aside0.mk trivial) | (clear T2; (with_reducible refine gate_store (t := 23) (p := 3) rfl ?_); refine wpList_store_row rfl 23 (.tmp 3) (.tmp 13) rfl w2.heap.size (arrV [0, 0, 0, 0, 0, 0, 258, 772]) rfl rfl 23 (arrV zero8) (blk_new _ _) hi0 rfl (arr_one _) ?_; rw [show (w2.alloc (.cells #[Value.int IntKind.u16 0, Value.int IntKind.u16 0, Value.int IntKind.u16 0, Value.int IntKind.u16 0, Value.int IntKind.u16 0, Value.int IntKind.u16 0, Value.int IntKind.u16 0, Value.int IntKind.u16 0] 23)).setRow w2.heap.size (arrV [0, 0, 0, 0, 0, 0, 258, 772]) = w2.alloc (.cells (arrV [0, 0, 0, 0, 0, 0, 258, 772]) 23) from Own.alloc_setRow _ _ _ _]; obtain ⟨w3, hw3⟩ : ∃ w3, w3 = w2.alloc (.cells (arrV [0, 0, 0, 0, 0, 0, 258, 772]) 23) := ⟨_, rfl⟩; rw [← hw3]; have HB3 := Aside0.mk (hw3 ▸ below_alloc HB2.out _ : Below w.heap.size w w3); have HZ3 := Aside0.mk (hw3 ▸ blk_new w2 _ : w3.heap[w2.heap.size]? = some (.cells (arrV [0, 0, 0, 0, 0, 0, 258, 772]) 23 (0, 0))); clear hw3 HB2; have T3 := Aside0.mk trivial) | (clear T3; go_at_call 12; (with_reducible refine (ip_Parse6.gcalls 60 _ _ _ _ ip_first.v2 (Own.ipW_below HT.out HB3.out)).mono ?_); rintro e w4 ⟨rfl, hb⟩; have HB4 := Aside0.mk (HB3.out.trans (hb.mono HB3.out.size)); have HZ4 := Aside0.mk (blk_below HZ3.out hb); clear hb HB3 HZ3; have T4 := Aside0.mk trivial) | (clear T4; (with_reducible refine gate_store (t := 23) (p := 5) rfl ?_); refine wpList_store_row rfl 23 (.tmp 5) (.tmp 17) rfl w4.heap.size (arrV zero8) rfl rfl 23 (arrV zero8) (blk_new _ _) hi0 rfl (arr_one _) ?_; rw [show (w4.alloc (.cells #[Value.int IntKind.u16 0, Value.int IntKind.u16 0, Value.int IntKind.u16 0, Value.int IntKind.u16 0, Value.int IntKind.u16 0, Value.int IntKind.u16 0, Value.int IntKind.u16 0, Value.int IntKind.u16 0] 23)).setRow w4.heap.size (arrV zero8) = w4.alloc (.cells (arrV zero8) 23) from Own.alloc_setRow _ _ _ _]; obtain ⟨w5, hw5⟩ : ∃ w5, w5 = w4.alloc (.cells (arrV zero8) 23) := ⟨_, rfl⟩; rw [← hw5]; have HB5 := Aside0.mk (hw5 ▸ below_alloc HB4.out _ : Below w.heap.size w w5); have HZ5 := Aside0.mk (hw5 ▸ blk_alloc HZ4.out _ : w5.heap[w2.heap.size]? = some (.cells (arrV [0, 0, 0, 0, 0, 0, 258, 772]) 23 (0, 0))); clear hw5 HB4 HZ4; have T5 := Aside0.mk trivial) | (clear T5; go_at_call 10; have z : Calls Tryd.prog 10 #[Value.agg #[Value.int IntKind.u16 1, Value.int IntKind.u16 0, Value.int IntKind.u16 0, Value.int IntKind.u16 0, Value.int IntKind.u16 0, Value.int IntKind.u16 0, Value.int IntKind.u16 0, Value.int IntKind.u16 1]] w5 (fun e w' => e = .returned (.string ⟨#[49, 58, 58, 49]⟩) ∧ Below w5.heap.size w5 w') := ip_Print6.gcalls 60 [1, 0, 0, 0, 0, 0, 0, 1] _ w5 ip_first.v3 (Own.ipW_below HT.out HB5.out); (with_reducible refine z.mono ?_); rintro e w6 ⟨rfl, hb⟩; have HB6 := Aside0.mk (HB5.out.trans (hb.mono HB5.out.size)); have hd6 := (blk_cell (blk_below HZ5.out hb) 6).trans (show _ = some (Value.int .u16 258) from rfl); have hd7 := (blk_cell (blk_below HZ5.out hb) 7).trans (show _ = some (Value.int .u16 772) from rfl); clear z hb HB5 HZ5))
  go_goals
  go_ret
  exact ⟨rfl, HB6.out⟩
def sprlaw7_first.f (k : Nat) : Option Bool := some true
theorem sprlaw7_first.mono : ∀ k, LeO (sprlaw7_first.f k) (sprlaw7_first.f (k + 1)) := fun _ => LeO.refl _
theorem sprlaw7_first.calls (k : Nat) (r : Bool) (w : World) (h : sprlaw7_first.f k = some r) (hT0 : Own.ipW w) :
    Calls Tryd.prog 9 #[] w fun e w' => e = .returned (.bool r) ∧ Below w.heap.size w w' := by
  obtain rfl : true = r := Option.some.inj h
  exact ip_first.own w hT0


/-! ### ip_Ends: function 16 -/
def ip_Ends.f (k : Nat) (a0 : ByteArray) : Option (Bool) := (ip_parts.f a0).bind fun t168 => (if 0 ≤ (wrap64 ((t168.length : Int) - 1)) then (if (wrap64 ((t168.length : Int) - 1)) < (t168.length : Int) then (if (rdOf ByteArray.empty t168 (wrap64 ((t168.length : Int) - 1))).toList = ([] : List UInt8) then (some false) else ((ip_number.f k (rdOf ByteArray.empty t168 (wrap64 ((t168.length : Int) - 1))) 10).bind fun bt172 => (if bt172.2 = true then (some true) else ((ip_part.f k (rdOf ByteArray.empty t168 (wrap64 ((t168.length : Int) - 1)))).bind fun bt174 => (some bt174.2))))) else (none)) else (none))
theorem ip_Ends.mono : ∀ a0 k, LeO (ip_Ends.f k a0) (ip_Ends.f (k + 1) a0) := by
  intro a0 k
  unfold ip_Ends.f
  repeat' first
      | (with_reducible exact ip_number.mono _ _ _)
      | (with_reducible exact ip_part.mono _ _)
      | (with_reducible exact LeO.refl _)
      | (with_reducible exact LeO.none _)
      | (with_reducible refine LeO.ite ?_ ?_)
      | (with_reducible refine LeO.bind ?_ (fun _ => ?_))
      | exact ip_number.mono _ _ _
      | exact ip_part.mono _ _
      | exact LeO.none _
      | refine LeO.ite ?_ ?_
      | refine LeO.bind ?_ (fun _ => ?_)
set_option maxHeartbeats 2000000 in
set_option maxRecDepth 100000 in
theorem ip_Ends.calls (k : Nat) (a0 : ByteArray) (r : Bool) (w : World) (h : ip_Ends.f k a0 = some r) :
    Calls Tryd.prog 16 #[.string a0] w fun e w' => e = .returned (.bool r) ∧ Below w.heap.size w w' := by
  have HB := Aside0.mk (Below.refl w.heap.size w)
  have H : ((ip_parts.f a0).bind fun t168 => (if 0 ≤ (wrap64 ((t168.length : Int) - 1)) then (if (wrap64 ((t168.length : Int) - 1)) < (t168.length : Int) then (if (rdOf ByteArray.empty t168 (wrap64 ((t168.length : Int) - 1))).toList = ([] : List UInt8) then (some false) else ((ip_number.f k (rdOf ByteArray.empty t168 (wrap64 ((t168.length : Int) - 1))) 10).bind fun bt172 => (if bt172.2 = true then (some true) else ((ip_part.f k (rdOf ByteArray.empty t168 (wrap64 ((t168.length : Int) - 1)))).bind fun bt174 => (some bt174.2))))) else (none)) else (none))) = some r := h
  clear h
  replace H := Option.bind_eq_some_iff.mp H
  obtain ⟨t168, A20, H⟩ := H
  replace H : (if 0 ≤ (wrap64 ((t168.length : Int) - 1)) then (if (wrap64 ((t168.length : Int) - 1)) < (t168.length : Int) then (if (rdOf ByteArray.empty t168 (wrap64 ((t168.length : Int) - 1))).toList = ([] : List UInt8) then (some false) else ((ip_number.f k (rdOf ByteArray.empty t168 (wrap64 ((t168.length : Int) - 1))) 10).bind fun bt172 => (if bt172.2 = true then (some true) else ((ip_part.f k (rdOf ByteArray.empty t168 (wrap64 ((t168.length : Int) - 1)))).bind fun bt174 => (some bt174.2))))) else (none)) else (none)) = some r := H
  have A2 := Aside0.mk A20
  clear A20
  obtain ⟨ji3, hji3⟩ : ∃ j_ : Int, (wrap64 ((t168.length : Int) - 1)) = j_ := ⟨_, rfl⟩
  replace H : (if 0 ≤ (ji3) then (if (ji3) < (t168.length : Int) then (if (rdOf ByteArray.empty t168 (ji3)).toList = ([] : List UInt8) then (some false) else ((ip_number.f k (rdOf ByteArray.empty t168 (ji3)) 10).bind fun bt172 => (if bt172.2 = true then (some true) else ((ip_part.f k (rdOf ByteArray.empty t168 (ji3))).bind fun bt174 => (some bt174.2))))) else (none)) else (none)) = some r := by first | (rw [hji3] at H; exact H) | (simp only [hji3] at H ⊢; exact H)
  (try rw [hji3] at A2)
  have hji3w : (IntKind.i64.wrap ((t168.length : Int) - 1)) = ji3 := (i64_w _).trans hji3
  by_cases c4 : 0 ≤ (ji3)
  · rw [if_pos c4] at H
    have c4b0 : decide (0 ≤ (ji3)) = true := decide_eq_true c4
    clear c4
    by_cases c5 : (ji3) < (t168.length : Int)
    · rw [if_pos c5] at H
      have c5b0 : decide ((ji3) < (t168.length : Int)) = true := decide_eq_true c5
      clear c5
      by_cases c6 : (rdOf ByteArray.empty t168 (ji3)).toList = ([] : List UInt8)
      · rw [if_pos c6] at H
        have c6b0 : ((rdOf ByteArray.empty t168 (ji3)).toList == ([] : List UInt8)) = true := beq_iff_eq.mpr c6
        have c6b1 : ((rdOf ByteArray.empty t168 (ji3)).toList != ([] : List UInt8)) = false := bne_eq_false_iff_eq.mpr c6
        clear c6
        obtain rfl := Option.some.inj H
        (try (have e_c6b0 := c6b0; simp only [c4b0, c5b0] at e_c6b0; simp at e_c6b0))
        go_enter Tryd.func16, Tryd.ntmps16
        go_wp2_with (first | ((with_reducible refine gate_callee (f := 25) rfl ?_); refine goesL_ (some 10) rfl rfl Tryd.func25 (by kernel_rfl) rfl #[.string a0] rfl (by (try simp only [List.map_toArray, List.map_cons, List.map_nil]); first | done | rfl | (simp only [List.length_drop, List.length_take]; rfl)) ?_; (with_reducible refine (ip_parts.calls a0 t168 _ A2.out).mono ?_); rintro e w7 ⟨v169, rfl, ho0, hb⟩; refine ⟨_, rfl, ?_⟩; have n0_ := Aside0.mk (Kd.R_lower ho0 (below_size (by repeat (first | (with_reducible first | exact HB.out | apply below_alloc | apply pw_below_drewN | apply below_drew1) | exact HB.out)))); have n1_ := Aside0.mk (below_step (by repeat (first | (with_reducible first | exact HB.out | apply below_alloc | apply pw_below_drewN | apply below_drew1) | exact HB.out)) hb); clear HB; have HO170 := n0_; have HB := n1_; clear n0_ n1_; (try clear hb); (try clear hb2); (try clear hk); (try clear hi); (try clear ho0); obtain ⟨Ao8, co8, eo8⟩ := Kd.R_slice HO170.out; subst eo8; have p171 : 0 ≤ ((ji3) : Int) := of_decide_eq_true (by first | (with_reducible assumption) | assumption); have q171 : (ji3) < (t168.length : Int) := of_decide_eq_true (by first | (with_reducible assumption) | assumption); obtain ⟨ad171, e171, hx171_0⟩ := Kd.at_string (Kd.R_reads' HO170.out).2.2 (ji3) p171 q171; cases e171; replace p171 := eq_true p171; replace q171 := eq_true q171))
        go_ret
        exact ⟨by first | rfl | (simp [errW_none, errW_some] <;> rfl) | (simp only [← hji3]; first | rfl | (simp [errW_none, errW_some] <;> rfl)) | (simp [*, errW_none, errW_some] <;> rfl), by repeat (first | (with_reducible first | exact HB.out | apply below_alloc | apply pw_below_drewN | apply below_drew1) | exact HB.out)⟩
      · rw [if_neg c6] at H
        have c6b0 : ((rdOf ByteArray.empty t168 (ji3)).toList == ([] : List UInt8)) = false := beq_eq_false_iff_ne.mpr c6
        have c6b1 : ((rdOf ByteArray.empty t168 (ji3)).toList != ([] : List UInt8)) = true := bne_iff_ne.mpr c6
        replace H := Option.bind_eq_some_iff.mp H
        obtain ⟨⟨t172, t173⟩, A90, H⟩ := H
        replace H : (if t173 = true then (some true) else ((ip_part.f k (rdOf ByteArray.empty t168 (ji3))).bind fun bt174 => (some bt174.2))) = some r := H
        have A9 := Aside0.mk A90
        clear A90
        by_cases c10 : t173 = true
        · subst c10
          have H1 : (some true) = some r := by rw [if_pos rfl] at H; exact H
          clear H
          have H := H1
          clear H1
          obtain rfl := Option.some.inj H
          (try (have e_c6b0 := c6b0; simp only [c4b0, c5b0] at e_c6b0; simp at e_c6b0))
          go_enter Tryd.func16, Tryd.ntmps16
          go_wp2_with (first | ((with_reducible refine gate_callee (f := 25) rfl ?_); refine goesL_ (some 10) rfl rfl Tryd.func25 (by kernel_rfl) rfl #[.string a0] rfl (by (try simp only [List.map_toArray, List.map_cons, List.map_nil]); first | done | rfl | (simp only [List.length_drop, List.length_take]; rfl)) ?_; (with_reducible refine (ip_parts.calls a0 t168 _ A2.out).mono ?_); rintro e w11 ⟨v169, rfl, ho0, hb⟩; refine ⟨_, rfl, ?_⟩; have n0_ := Aside0.mk (Kd.R_lower ho0 (below_size (by repeat (first | (with_reducible first | exact HB.out | apply below_alloc | apply pw_below_drewN | apply below_drew1) | exact HB.out)))); have n1_ := Aside0.mk (below_step (by repeat (first | (with_reducible first | exact HB.out | apply below_alloc | apply pw_below_drewN | apply below_drew1) | exact HB.out)) hb); clear HB; have HO170 := n0_; have HB := n1_; clear n0_ n1_; (try clear hb); (try clear hb2); (try clear hk); (try clear hi); (try clear ho0); obtain ⟨Ao12, co12, eo12⟩ := Kd.R_slice HO170.out; subst eo12; have p171 : 0 ≤ ((ji3) : Int) := of_decide_eq_true (by first | (with_reducible assumption) | assumption); have q171 : (ji3) < (t168.length : Int) := of_decide_eq_true (by first | (with_reducible assumption) | assumption); obtain ⟨ad171, e171, hx171_0⟩ := Kd.at_string (Kd.R_reads' HO170.out).2.2 (ji3) p171 q171; cases e171; replace p171 := eq_true p171; replace q171 := eq_true q171) | ((with_reducible refine gate_callee (f := 30) rfl ?_); refine goesL_ (some 21) rfl rfl Tryd.func30 (by kernel_rfl) rfl #[.string (rdOf ByteArray.empty t168 (ji3)), .int .i64 10] rfl (by (try simp only [List.map_toArray, List.map_cons, List.map_nil]); first | done | (simp only [hji3]; rfl) | rfl | (simp only [List.length_drop, List.length_take]; rfl)) ?_; (with_reducible refine (ip_number.calls k (rdOf ByteArray.empty t168 (ji3)) 10 t172 true _ A9.out).mono ?_); rintro e w13 ⟨rfl, hb⟩; refine ⟨_, rfl, ?_⟩; have n0_ := Aside0.mk (Kd.R_below (by (with_reducible repeat (first | apply Kd.R_alloc | apply Kd.R_drewN | apply Kd.R_drew)); exact HO170.out) hb); have n1_ := Aside0.mk (below_step (by repeat (first | (with_reducible first | exact HB.out | apply below_alloc | apply pw_below_drewN | apply below_drew1) | exact HB.out)) hb); clear HO170; clear HB; have HO170 := n0_; have HB := n1_; clear n0_ n1_; (try clear hb); (try clear hb2); (try clear hk); (try clear hi)))
          go_ret
          exact ⟨by first | rfl | (simp [errW_none, errW_some] <;> rfl) | (simp only [← hji3]; first | rfl | (simp [errW_none, errW_some] <;> rfl)) | (simp [*, errW_none, errW_some] <;> rfl), by repeat (first | (with_reducible first | exact HB.out | apply below_alloc | apply pw_below_drewN | apply below_drew1) | exact HB.out)⟩
        · replace c10 := Bool.eq_false_iff.mpr c10
          subst c10
          have H1 : ((ip_part.f k (rdOf ByteArray.empty t168 (ji3))).bind fun bt174 => (some bt174.2)) = some r := by rw [if_neg (show ¬ (false = true) by decide)] at H; exact H
          clear H
          have H := H1
          clear H1
          replace H := Option.bind_eq_some_iff.mp H
          obtain ⟨⟨t174, t175⟩, A140, H⟩ := H
          replace H : (some t175) = some r := H
          have A14 := Aside0.mk A140
          clear A140
          obtain rfl := Option.some.inj H
          (try (have e_c6b0 := c6b0; simp only [c4b0, c5b0] at e_c6b0; simp at e_c6b0))
          go_enter Tryd.func16, Tryd.ntmps16
          go_wp2_with (first | ((with_reducible refine gate_callee (f := 25) rfl ?_); refine goesL_ (some 10) rfl rfl Tryd.func25 (by kernel_rfl) rfl #[.string a0] rfl (by (try simp only [List.map_toArray, List.map_cons, List.map_nil]); first | done | rfl | (simp only [List.length_drop, List.length_take]; rfl)) ?_; (with_reducible refine (ip_parts.calls a0 t168 _ A2.out).mono ?_); rintro e w15 ⟨v169, rfl, ho0, hb⟩; refine ⟨_, rfl, ?_⟩; have n0_ := Aside0.mk (Kd.R_lower ho0 (below_size (by repeat (first | (with_reducible first | exact HB.out | apply below_alloc | apply pw_below_drewN | apply below_drew1) | exact HB.out)))); have n1_ := Aside0.mk (below_step (by repeat (first | (with_reducible first | exact HB.out | apply below_alloc | apply pw_below_drewN | apply below_drew1) | exact HB.out)) hb); clear HB; have HO170 := n0_; have HB := n1_; clear n0_ n1_; (try clear hb); (try clear hb2); (try clear hk); (try clear hi); (try clear ho0); obtain ⟨Ao16, co16, eo16⟩ := Kd.R_slice HO170.out; subst eo16; have p171 : 0 ≤ ((ji3) : Int) := of_decide_eq_true (by first | (with_reducible assumption) | assumption); have q171 : (ji3) < (t168.length : Int) := of_decide_eq_true (by first | (with_reducible assumption) | assumption); obtain ⟨ad171, e171, hx171_0⟩ := Kd.at_string (Kd.R_reads' HO170.out).2.2 (ji3) p171 q171; cases e171; replace p171 := eq_true p171; replace q171 := eq_true q171) | ((with_reducible refine gate_callee (f := 30) rfl ?_); refine goesL_ (some 21) rfl rfl Tryd.func30 (by kernel_rfl) rfl #[.string (rdOf ByteArray.empty t168 (ji3)), .int .i64 10] rfl (by (try simp only [List.map_toArray, List.map_cons, List.map_nil]); first | done | (simp only [hji3]; rfl) | rfl | (simp only [List.length_drop, List.length_take]; rfl)) ?_; (with_reducible refine (ip_number.calls k (rdOf ByteArray.empty t168 (ji3)) 10 t172 false _ A9.out).mono ?_); rintro e w17 ⟨rfl, hb⟩; refine ⟨_, rfl, ?_⟩; have n0_ := Aside0.mk (Kd.R_below (by (with_reducible repeat (first | apply Kd.R_alloc | apply Kd.R_drewN | apply Kd.R_drew)); exact HO170.out) hb); have n1_ := Aside0.mk (below_step (by repeat (first | (with_reducible first | exact HB.out | apply below_alloc | apply pw_below_drewN | apply below_drew1) | exact HB.out)) hb); clear HO170; clear HB; have HO170 := n0_; have HB := n1_; clear n0_ n1_; (try clear hb); (try clear hb2); (try clear hk); (try clear hi)) | ((with_reducible refine gate_callee (f := 26) rfl ?_); refine goesL_ (some 27) rfl rfl Tryd.func26 (by kernel_rfl) rfl #[.string (rdOf ByteArray.empty t168 (ji3))] rfl (by (try simp only [List.map_toArray, List.map_cons, List.map_nil]); first | done | (simp only [hji3]; rfl) | rfl | (simp only [List.length_drop, List.length_take]; rfl)) ?_; (with_reducible refine (ip_part.calls k (rdOf ByteArray.empty t168 (ji3)) t174 t175 _ A14.out).mono ?_); rintro e w18 ⟨rfl, hb⟩; refine ⟨_, rfl, ?_⟩; have n0_ := Aside0.mk (Kd.R_below (by (with_reducible repeat (first | apply Kd.R_alloc | apply Kd.R_drewN | apply Kd.R_drew)); exact HO170.out) hb); have n1_ := Aside0.mk (below_step (by repeat (first | (with_reducible first | exact HB.out | apply below_alloc | apply pw_below_drewN | apply below_drew1) | exact HB.out)) hb); clear HO170; clear HB; have HO170 := n0_; have HB := n1_; clear n0_ n1_; (try clear hb); (try clear hb2); (try clear hk); (try clear hi)))
          go_ret
          exact ⟨by first | rfl | (simp [errW_none, errW_some] <;> rfl) | (simp only [← hji3]; first | rfl | (simp [errW_none, errW_some] <;> rfl)) | (simp [*, errW_none, errW_some] <;> rfl), by repeat (first | (with_reducible first | exact HB.out | apply below_alloc | apply pw_below_drewN | apply below_drew1) | exact HB.out)⟩
    · rw [if_neg c5] at H
      exact absurd H (by simp)
  · rw [if_neg c4] at H
    exact absurd H (by simp)

/-! ### strconv_Itoa: function 33 -/
theorem grow_below (w : World) (k : Nat) (os : Array Obj) : Below w.heap.size w (Go.Sort.grow (w.drewN k) os) := by
  refine (pw_below_drewN (Below.refl _ w) k).trans ⟨rfl, rfl, rfl, ?_, fun j hj => ?_⟩
  · show _ ≤ (Array.append _ _).size
    simp [Go.Sort.grow]
  · show ((w.drewN k).heap ++ os)[j]? = _
    rw [Array.getElem?_append_left (show j < (w.drewN k).heap.size from hj)]
def strconv_Itoa.f (a0 : Int) : Option ByteArray := if -9223372036854775808 ≤ a0 ∧ a0 ≤ 9223372036854775807 then some ⟨(Lib.itoa a0).toArray⟩ else none
theorem strconv_Itoa.calls (a0 : Int) (r : ByteArray) (w : World) (h : strconv_Itoa.f a0 = some r) (hT0 : Own.ipW w) :
    Calls Tryd.prog 33 #[.int .i64 a0] w fun e w' => e = .returned (.string r) ∧ Below w.heap.size w w' := by
  unfold strconv_Itoa.f at h
  split at h
  · rename_i h0
    obtain rfl := Option.some.inj h
    exact (Tryd.strconv_Itoa a0 h0.1 h0.2 w hT0.2.2).mono fun e w' ⟨he, k, os, hw⟩ => ⟨he, hw ▸ grow_below w k os⟩
  · cases h


/-! ### ip_Print4: function 18 -/
def ip_Print4.l0 : Nat → Int → List ByteArray → Int → Option (ByteArray)
  | 0, _, _, _ => none
  | k + 1, x0, x3, x5 => if x5 < 4 then (if 0 ≤ (wrap64 (24 - (wrap64 (8 * x5)))) then ((strconv_Itoa.f (wrap64 (Go.bits .and .u32 (shr .u32 x0 (wrap64 (24 - (wrap64 (8 * x5))))) 255))).bind fun t176 => (if x3.length < 8796093022208 then (ip_Print4.l0 k x0 (x3 ++ [t176]) (wrap64 (x5 + 1))) else (none))) else (none)) else ((strings_Join.f x3 (⟨#[46]⟩ : ByteArray)).bind fun t180 => (some t180))
def ip_Print4.f (k : Nat) (a0 : Int) : Option (ByteArray) := ip_Print4.l0 k a0 ([] : List ByteArray) 0
theorem ip_Print4.mono_l : ∀ k, (∀ y0 y1 y2, LeO (ip_Print4.l0 k y0 y1 y2) (ip_Print4.l0 (k + 1) y0 y1 y2))
  | 0 => fun _ _ _ r h => by simp [ip_Print4.l0] at h
  | k + 1 => by
    have ih0 := ip_Print4.mono_l k
    · intro y0 y1 y2
      unfold ip_Print4.l0
      repeat' first
      | (with_reducible exact ih0 _ _ _)
      | (with_reducible exact LeO.refl _)
      | (with_reducible exact LeO.none _)
      | (with_reducible refine LeO.ite ?_ ?_)
      | (with_reducible refine LeO.bind ?_ (fun _ => ?_))
      | exact ih0 _ _ _
      | exact LeO.none _
      | refine LeO.ite ?_ ?_
      | refine LeO.bind ?_ (fun _ => ?_)
theorem ip_Print4.mono : ∀ a0 k, LeO (ip_Print4.f k a0) (ip_Print4.f (k + 1) a0) := by
  intro a0 k
  have ih0 := ip_Print4.mono_l k
  unfold ip_Print4.f
  repeat' first
      | (with_reducible exact ih0 _ _ _)
      | (with_reducible exact LeO.refl _)
      | (with_reducible exact LeO.none _)
      | (with_reducible refine LeO.ite ?_ ?_)
      | (with_reducible refine LeO.bind ?_ (fun _ => ?_))
      | exact ih0 _ _ _
      | exact LeO.none _
      | refine LeO.ite ?_ ?_
      | refine LeO.bind ?_ (fun _ => ?_)
set_option maxHeartbeats 2000000 in
set_option maxRecDepth 100000 in
theorem ip_Print4.calls (k : Nat) (a0 : Int) (r : ByteArray) (w : World) (h : ip_Print4.f k a0 = some r) (hT0 : Own.ipW w) :
    Calls Tryd.prog 18 #[.int .u32 a0] w fun e w' => e = .returned (.string r) ∧ Below w.heap.size w w' := by
  have HT0 := Aside0.mk hT0
  clear hT0
  have HB := Aside0.mk (Below.refl w.heap.size w)
  have H : (ip_Print4.l0 k a0 ([] : List ByteArray) 0) = some r := h
  clear h
  have H' := Aside0.mk H
  clear H
  go_enter Tryd.func18, Tryd.ntmps18
  go_wp2
  go_loopg [3, 5] k (fun kq v3 v5 w' => ∃ (x3_1 : List ByteArray) (x5_1 : Int), v5 = .int .i64 x5_1 ∧ Aside0 (ip_Print4.l0 kq a0 x3_1 x5_1 = some r) ∧ Aside0 (kq ≤ k) ∧ Aside0 (Kd.R Kd.string 9 w' w.heap.size (fun _ => True) v3 x3_1) ∧ Aside0 (Below w.heap.size w w'))
  case atStart => exact ⟨(([] : List ByteArray)), (0), (by first | rfl | (simp; done) | (simp [*]; done)), H', ⟨Nat.le_refl _⟩, ⟨by first | exact Kd.R_nil _ _ _ _ _ | exact Kd.N_nil _ _ _ _ _ | exact Kd.V_nil _ _ _ _ _ | exact Kd.Q_nil _ _ _ _ _ | exact Kd.S_nil _ _ _ _ _⟩, ⟨by repeat (first | (with_reducible first | exact HB.out | apply below_alloc | apply pw_below_drewN | apply below_drew1) | exact HB.out)⟩⟩
  case round =>
    clear H'
    try clear c1
    obtain ⟨x3_1, x5_1, rfl, HA, HK1, HO_3, HB⟩ := hrel
    cases gk with
    | zero => exact absurd HA.out (by simp [ip_Print4.l0])
    | succ k1 =>
      have H := HA.out
      clear HA
      simp only [ip_Print4.l0] at H
      by_cases c2 : x5_1 < 4
      · rw [if_pos c2] at H
        have c2b0 : decide (x5_1 < 4) = true := decide_eq_true c2
        clear c2
        obtain ⟨ji3, hji3⟩ : ∃ j_ : Int, (wrap64 (24 - (wrap64 (8 * x5_1)))) = j_ := ⟨_, rfl⟩
        replace H : (if 0 ≤ (ji3) then ((strconv_Itoa.f (wrap64 (Go.bits .and .u32 (shr .u32 a0 (ji3)) 255))).bind fun t176 => (if x3_1.length < 8796093022208 then (ip_Print4.l0 k1 a0 (x3_1 ++ [t176]) (wrap64 (x5_1 + 1))) else (none))) else (none)) = some r := by first | (rw [hji3] at H; exact H) | (simp only [hji3] at H ⊢; exact H)
        have hji3w : (IntKind.i64.wrap (24 - (wrap64 (8 * x5_1)))) = ji3 := (i64_w _).trans hji3
        by_cases c4 : 0 ≤ (ji3)
        · rw [if_pos c4] at H
          have c4b0 := eq_true c4
          have c4b1 : decide (0 ≤ (ji3)) = true := decide_eq_true c4
          clear c4
          obtain ⟨ji5, hji5⟩ : ∃ j_ : Int, (shr .u32 a0 (ji3)) = j_ := ⟨_, rfl⟩
          replace H : ((strconv_Itoa.f (wrap64 (Go.bits .and .u32 (ji5) 255))).bind fun t176 => (if x3_1.length < 8796093022208 then (ip_Print4.l0 k1 a0 (x3_1 ++ [t176]) (wrap64 (x5_1 + 1))) else (none))) = some r := by first | (rw [hji5] at H; exact H) | (simp only [hji5] at H ⊢; exact H)
          have hji5_ : (a0 / 2 ^ min (ji3).toNat 32) = ji5 := hji5
          have hji5z : (ji3) ≤ 32 → (a0 / 2 ^ (ji3).toNat) = ji5 := shr_small hji5
          replace H := Option.bind_eq_some_iff.mp H
          obtain ⟨t176, A60, H⟩ := H
          replace H : (if x3_1.length < 8796093022208 then (ip_Print4.l0 k1 a0 (x3_1 ++ [t176]) (wrap64 (x5_1 + 1))) else (none)) = some r := H
          have A6 := Aside0.mk A60
          clear A60
          by_cases c7 : x3_1.length < 8796093022208
          · rw [if_pos c7] at H
            have LMc7 := Aside0.mk c7
            clear c7
            obtain ⟨y177, hy177⟩ : ∃ y_ : List ByteArray, y_ = (x3_1 ++ [t176]) := ⟨_, rfl⟩
            replace H : (ip_Print4.l0 k1 a0 y177 (wrap64 (x5_1 + 1))) = some r := by first | (rw [hy177]; with_reducible exact H) | (have H2_ := (Option.bind_some _ _).symm.trans H; rw [hy177]; with_reducible exact H2_) | (have H2_ := (Option.bind_some _ _).symm.trans H; with_reducible exact H2_) | with_reducible exact H | (rw [hy177]; exact H) | exact H
            have Ny177 := Aside0.mk hy177
            clear hy177
            have H' := Aside0.mk H
            clear H
            go_wp2_with (first | ((with_reducible refine gate_callee (f := 33) rfl ?_); refine goesL_ (some 16) rfl rfl Tryd.func33 (by kernel_rfl) rfl #[.int .i64 (wrap64 (Go.bits .and .u32 (ji5) 255))] rfl (by (try simp only [List.map_toArray, List.map_cons, List.map_nil]); first | done | (simp only [hji5]; rfl) | rfl | (simp only [List.length_drop, List.length_take]; rfl)) ?_; (with_reducible refine (strconv_Itoa.calls (wrap64 (Go.bits .and .u32 (ji5) 255)) t176 _ A6.out (Own.ipW_below HT0.out (by repeat (first | (with_reducible first | exact HB.out | apply below_alloc | apply pw_below_drewN | apply below_drew1) | exact HB.out)))).mono ?_); rintro e w8 ⟨rfl, hb⟩; refine ⟨_, rfl, ?_⟩; have n0_ := Aside0.mk (Kd.R_below (by (with_reducible repeat (first | apply Kd.R_alloc | apply Kd.R_drewN | apply Kd.R_drew)); exact HO_3.out) hb); have n1_ := Aside0.mk (below_step (by repeat (first | (with_reducible first | exact HB.out | apply below_alloc | apply pw_below_drewN | apply below_drew1) | exact HB.out)) hb); clear HO_3; clear HB; have HO_3 := n0_; have HB := n1_; clear n0_ n1_; (try clear hb); (try clear hb2); (try clear hk); (try clear hi)) | ((with_reducible refine gate_builtin (b := .append) (xs := #[.tmp 8, .tmp 17]) rfl ?_); at_builtin; refine Kd.R_append Kd.string (w0 := w) w.heap.size rfl (.tmp 8) (.tmp 17) 51 9 (.string ⟨#[]⟩) 16 rfl Tryd.underlying51 info9 rfl (by decide) (by omega) u3 x3_1 t176 [.string t176] (fun _ => True) (fun _ => False) rfl rfl ?aP (fun _ hk => hk.elim) ?aF ?aO ?aB ?aS ?aL ?_; (case aP => exact rfl); (case aB => exact (by repeat (first | (with_reducible first | exact HB.out | apply below_alloc | apply pw_below_drewN | apply below_drew1) | exact HB.out))); (case aF => exact (fun _ _ => trivial)); (case aO => exact (by (with_reducible repeat (first | apply Kd.R_alloc | apply Kd.R_drewN | apply Kd.R_drew)); exact HO_3.out)); (case aS => exact (below_size (by repeat (first | (with_reducible first | exact HB.out | apply below_alloc | apply pw_below_drewN | apply below_drew1) | exact HB.out)))); (case aL => have := LMc7.out; omega); intro v178 w9 ho hb hg hat; rw [← Ny177.out] at ho; have n0_ := Aside0.mk (hb); have n1_ := Aside0.mk (ho); clear HB; clear HO_3; have HB := n0_; have HO179 := n1_; clear n0_ n1_; clear ho hb hg hat))
            go_roundg k1
            case measure => have := HK1.out; omega
            case rel => exact ⟨(y177), (wrap64 (x5_1 + 1)), (by first | rfl | (simp; done) | (simp [*]; done)), H', ⟨by have := HK1.out; omega⟩, ⟨by (with_reducible repeat (first | apply Kd.R_alloc | apply Kd.R_drewN | apply Kd.R_drew)); exact HO179.out⟩, ⟨by repeat (first | (with_reducible first | exact HB.out | apply below_alloc | apply pw_below_drewN | apply below_drew1) | exact HB.out)⟩⟩
          · rw [if_neg c7] at H
            exact absurd H (by simp)
        · rw [if_neg c4] at H
          exact absurd H (by simp)
      · rw [if_neg c2] at H
        have c2b0 : decide (x5_1 < 4) = false := decide_eq_false c2
        clear c2
        replace H := Option.bind_eq_some_iff.mp H
        obtain ⟨t180, A100, H⟩ := H
        replace H : (some t180) = some r := H
        have A10 := Aside0.mk A100
        clear A100
        obtain rfl := Option.some.inj H
        obtain ⟨Ao11, co11, eo11⟩ := Kd.R_slice HO_3.out
        subst eo11
        go_wp2_with (first | ((with_reducible refine gate_callee (f := 34) rfl ?_); refine goesL_ (some 21) rfl rfl Tryd.func34 (by kernel_rfl) rfl #[.slice Ao11 x3_1.length co11, .string (⟨#[46]⟩ : ByteArray)] rfl (by (try simp only [List.map_toArray, List.map_cons, List.map_nil]); first | done | rfl | (simp only [List.length_drop, List.length_take]; rfl)) ?_; (with_reducible refine (strings_Join.calls _ _ x3_1 (⟨#[46]⟩ : ByteArray) t180 _ ?side1 ?side2 A10.out).mono ?_); (case side1 => repeat (first | exact (Kd.R_reads' HO_3.out).2.2 | (with_reducible refine Kd.C_alloc ?_ _) | (with_reducible refine Kd.C_drewN ?_ _) | (with_reducible refine Kd.C_drew ?_))); (case side2 => exact (Kd.R_reads' HO_3.out).2.1); rintro e w12 ⟨rfl, hb⟩; refine ⟨_, rfl, ?_⟩; have n0_ := Aside0.mk (Kd.R_below (by (with_reducible repeat (first | apply Kd.R_alloc | apply Kd.R_drewN | apply Kd.R_drew)); exact HO_3.out) hb); have n1_ := Aside0.mk (below_step (by repeat (first | (with_reducible first | exact HB.out | apply below_alloc | apply pw_below_drewN | apply below_drew1) | exact HB.out)) hb); clear HO_3; clear HB; have HO_3 := n0_; have HB := n1_; clear n0_ n1_; (try clear hb); (try clear hb2); (try clear hk); (try clear hi)))
        go_ret
        exact ⟨by first | rfl | (simp [errW_none, errW_some] <;> rfl) | (simp [*, errW_none, errW_some] <;> rfl), by repeat (first | (with_reducible first | exact HB.out | apply below_alloc | apply pw_below_drewN | apply below_drew1) | exact HB.out)⟩

/-! ### sprlaw7_IpBack: function 8 -/
set_option maxHeartbeats 4000000 in
set_option maxRecDepth 100000 in
theorem sprlaw7_IpBack.long (n : Int) (p : List Int) (s : ByteArray) (w : World) (hT : Own.ipW w) (hs : ¬ s.size ≤ 5000) :
    Calls Tryd.prog 8 #[.int .u32 n, .agg (arrV p), .string s] w fun e w' => e = .returned (.bool true) ∧ Below w.heap.size w w' := by
  have HT := Aside0.mk hT
  have hu := Tryd.underlying23
  have hi0 : (Tryd.prog.info? 23).map (·.size) = some (arrV zero8).size := by kernel_rfl
  have T0 := Aside0.mk trivial
  obtain ⟨w0, hw0⟩ : ∃ w0, w0 = w.alloc (.cells (arrV p) 23) := ⟨_, rfl⟩
  have HB0 : Aside0 (Below w.heap.size w w0) := ⟨by rw [hw0]; exact below_alloc (Below.refl _ _) _⟩
  have HRp_0 : Aside0 (w0.heap[w.heap.size]? = some (.cells (arrV p) 23 (0, 0))) := ⟨by rw [hw0]; exact blk_new _ _⟩
  have q0 : decide ((5000 : Int) < (s.size : Int)) = true := decide_eq_true (by omega)
  go_enter Tryd.func8, Tryd.ntmps8
  go_wp2_with (first | (clear T0; go_at_call 9; rw [← hw0]; clear hw0; (with_reducible refine (sprlaw7_first.calls 0 true _ rfl (Own.ipW_below HT.out HB0.out)).mono ?_); rintro e w1 ⟨rfl, hb⟩; have HB1 := Aside0.mk (HB0.out.trans (hb.mono HB0.out.size)); have HRp_1 := Aside0.mk (blk_below HRp_0.out hb); clear hb HB0 HRp_0; have T1 := Aside0.mk trivial) | (clear T1; go_at_call 9; (with_reducible refine (sprlaw7_first.calls 0 true _ rfl (Own.ipW_below HT.out HB1.out)).mono ?_); rintro e w2 ⟨rfl, hb⟩; have HB2 := Aside0.mk (HB1.out.trans (hb.mono HB1.out.size)); have HRp_2 := Aside0.mk (blk_below HRp_1.out hb); clear hb HB1 HRp_1; have T2 := Aside0.mk trivial))
  go_ret
  exact ⟨rfl, HB2.out⟩
set_option maxHeartbeats 4000000 in
set_option maxRecDepth 100000 in
theorem sprlaw7_IpBack.w00 (k : Nat) (n : Int) (p : List Int) (s a t bt ut : ByteArray) (b1 b2 : Int) (u : List Int) (u2 : Int) (w : World) (hT : Own.ipW w) (hs : s.size ≤ 5000) (hp8 : p.length = 8) (hu8 : u.length = 8) (ha : ip_Print4.f k n = some a) (hx : ip_Parse4.f k a = some (n, 0)) (ht : ip_Print6.g k p = some t) (hq : ip_Parse6.g k t = some (p, 0)) (he : ip_Ends.f k a = some true) (hb : ip_Parse4.f k s = some (b1, 0)) (hbt : ip_Print4.f k b1 = some bt) (hc : ip_Parse4.f k bt = some (b1, 0)) (hu6 : ip_Parse6.g k s = some (u, 0)) (hut : ip_Print6.g k u = some ut) (hv : ip_Parse6.g k ut = some (u, 0))  :
    Calls Tryd.prog 8 #[.int .u32 n, .agg (arrV p), .string s] w fun e w' => e = .returned (.bool true) ∧ Below w.heap.size w w' := by
  have HT := Aside0.mk hT
  have hu := Tryd.underlying23
  have hi0 : (Tryd.prog.info? 23).map (·.size) = some (arrV zero8).size := by kernel_rfl
  have T0 := Aside0.mk trivial
  obtain ⟨w0, hw0⟩ : ∃ w0, w0 = w.alloc (.cells (arrV p) 23) := ⟨_, rfl⟩
  have HB0 : Aside0 (Below w.heap.size w w0) := ⟨by rw [hw0]; exact below_alloc (Below.refl _ _) _⟩
  have HRp_0 : Aside0 (w0.heap[w.heap.size]? = some (.cells (arrV p) 23 (0, 0))) := ⟨by rw [hw0]; exact blk_new _ _⟩
  have hu2' := Tryd.underlying22
  have hip : Aside0 ((Tryd.prog.info? 23).map (·.size) = some (arrV p).size) := ⟨by rw [arr_size, hp8]; kernel_rfl⟩
  have hsp : Aside0 ((arrV zero8).size = (arrV p).size) := ⟨by rw [arr_size, arr_size, hp8]; rfl⟩
  have hiu : Aside0 ((Tryd.prog.info? 23).map (·.size) = some (arrV u).size) := ⟨by rw [arr_size, hu8]; kernel_rfl⟩
  have hsu : Aside0 ((arrV zero8).size = (arrV u).size) := ⟨by rw [arr_size, arr_size, hu8]; rfl⟩
  have heqp := fun w' => arr_eq (P := Tryd.prog) (t := 23) (e := 22) (n := 8) Tryd.underlying23 Tryd.underlying22 (fun _ => by kernel_rfl) (fun _ => by kernel_rfl) 9998 p p hp8 hp8 w'
  rw [decide_eq_true (rfl : p = p)] at heqp
  have hequ := fun w' => arr_eq (P := Tryd.prog) (t := 23) (e := 22) (n := 8) Tryd.underlying23 Tryd.underlying22 (fun _ => by kernel_rfl) (fun _ => by kernel_rfl) 9998 u u hu8 hu8 w'
  rw [decide_eq_true (rfl : u = u)] at hequ
  have HP8 := Aside0.mk hp8
  have HU8 := Aside0.mk hu8
  clear hp8 hu8
  have q0 : decide ((5000 : Int) < (s.size : Int)) = false := decide_eq_false (by omega)
  go_enter Tryd.func8, Tryd.ntmps8
  go_wp2_with (first | (clear T0; go_at_call 9; rw [← hw0]; clear hw0; (with_reducible refine (sprlaw7_first.calls 0 true _ rfl (Own.ipW_below HT.out HB0.out)).mono ?_); rintro e w1 ⟨rfl, hb⟩; have HB1 := Aside0.mk (HB0.out.trans (hb.mono HB0.out.size)); have HRp_1 := Aside0.mk (blk_below HRp_0.out hb); clear hb HB0 HRp_0; have T1 := Aside0.mk trivial) | (clear T1; go_at_call 18; (with_reducible refine (ip_Print4.calls k n a _ ha (Own.ipW_below HT.out HB1.out)).mono ?_); rintro e w2 ⟨rfl, hb⟩; have HB2 := Aside0.mk (HB1.out.trans (hb.mono HB1.out.size)); have HRp_2 := Aside0.mk (blk_below HRp_1.out hb); clear hb HB1 HRp_1; have T2 := Aside0.mk trivial) | (clear T2; go_at_call 13; (with_reducible refine (ip_Parse4.calls k a n 0 _ hx).mono ?_); rintro e w3 ⟨rfl, hb⟩; have HB3 := Aside0.mk (HB2.out.trans (hb.mono HB2.out.size)); have HRp_3 := Aside0.mk (blk_below HRp_2.out hb); clear hb HB2 HRp_2; have T3 := Aside0.mk trivial) | ((with_reducible refine gate_dst (N := 32) rfl ?_); refine gate_guard (by rfl) ?_; refine wpList_load_row rfl 23 (.tmp 4) rfl w.heap.size rfl 23 (arrV p) (0, 0) _ HRp_3.out hu rfl hip.out ?_) | (clear T3; go_at_call 10; (with_reducible refine (ip_Print6.gcalls k p t _ ht (Own.ipW_below HT.out HB3.out)).mono ?_); rintro e w4 ⟨rfl, hb⟩; have HB4 := Aside0.mk (HB3.out.trans (hb.mono HB3.out.size)); have HRp_4 := Aside0.mk (blk_below HRp_3.out hb); clear hb HB3 HRp_3; have T4 := Aside0.mk trivial) | (clear T4; go_at_call 12; (with_reducible refine (ip_Parse6.gcalls k t p 0 _ hq (Own.ipW_below HT.out HB4.out)).mono ?_); rintro e w5 ⟨rfl, hb⟩; have HB5 := Aside0.mk (HB4.out.trans (hb.mono HB4.out.size)); have HRp_5 := Aside0.mk (blk_below HRp_4.out hb); clear hb HB4 HRp_4; have T5 := Aside0.mk trivial) | (clear T5; (with_reducible refine gate_store (t := 23) (p := 9) rfl ?_); refine wpList_store_row rfl 23 (.tmp 9) (.tmp 35) rfl w5.heap.size (arrV p) rfl rfl 23 (arrV zero8) (blk_new _ _) hip.out hsp.out (arr_one _) ?_; rw [show (w5.alloc (.cells #[Value.int IntKind.u16 0, Value.int IntKind.u16 0, Value.int IntKind.u16 0, Value.int IntKind.u16 0, Value.int IntKind.u16 0, Value.int IntKind.u16 0, Value.int IntKind.u16 0, Value.int IntKind.u16 0] 23)).setRow w5.heap.size (arrV p) = w5.alloc (.cells (arrV p) 23) from Own.alloc_setRow _ _ _ _]; obtain ⟨w6, hw⟩ : ∃ v, v = w5.alloc (.cells (arrV p) 23) := ⟨_, rfl⟩; rw [← hw]; have HB6 := Aside0.mk (hw ▸ below_alloc HB5.out _ : Below w.heap.size w w6); have HRp_6 := Aside0.mk (hw ▸ blk_alloc HRp_5.out _ : w6.heap[w.heap.size]? = some (.cells (arrV p) 23 (0, 0))); have HRq_6 := Aside0.mk (hw ▸ blk_new w5 _ : w6.heap[w5.heap.size]? = some (.cells (arrV p) 23 (0, 0))); clear hw HB5 HRp_5; have T6 := Aside0.mk trivial) | ((with_reducible refine gate_dst (N := 49) rfl ?_); refine gate_guard (by rfl) ?_; refine wpList_load_row rfl 23 (.tmp 9) rfl w5.heap.size rfl 23 (arrV p) (0, 0) _ HRq_6.out hu rfl hip.out ?_) | ((with_reducible refine gate_dst (N := 50) rfl ?_); refine gate_guard (by rfl) ?_; refine wpList_load_row rfl 23 (.tmp 4) rfl w.heap.size rfl 23 (arrV p) (0, 0) _ HRp_6.out hu rfl hip.out ?_) | (clear T6; go_at_call 18; (with_reducible refine (ip_Print4.calls k n a _ ha (Own.ipW_below HT.out HB6.out)).mono ?_); rintro e w7 ⟨rfl, hb⟩; have HB7 := Aside0.mk (HB6.out.trans (hb.mono HB6.out.size)); have HRp_7 := Aside0.mk (blk_below HRp_6.out hb); have HRq_7 := Aside0.mk (blk_below HRq_6.out hb); clear hb HB6 HRp_6 HRq_6; have T7 := Aside0.mk trivial) | (clear T7; go_at_call 16; (with_reducible refine (ip_Ends.calls k a true _ he).mono ?_); rintro e w8 ⟨rfl, hb⟩; have HB8 := Aside0.mk (HB7.out.trans (hb.mono HB7.out.size)); have HRp_8 := Aside0.mk (blk_below HRp_7.out hb); have HRq_8 := Aside0.mk (blk_below HRq_7.out hb); clear hb HB7 HRp_7 HRq_7; have T8 := Aside0.mk trivial) | (clear T8; go_at_call 13; (with_reducible refine (ip_Parse4.calls k s b1 0 _ hb).mono ?_); rintro e w9 ⟨rfl, hb⟩; have HB9 := Aside0.mk (HB8.out.trans (hb.mono HB8.out.size)); have HRp_9 := Aside0.mk (blk_below HRp_8.out hb); have HRq_9 := Aside0.mk (blk_below HRq_8.out hb); clear hb HB8 HRp_8 HRq_8; have T9 := Aside0.mk trivial) | (clear T9; go_at_call 18; (with_reducible refine (ip_Print4.calls k b1 bt _ hbt (Own.ipW_below HT.out HB9.out)).mono ?_); rintro e w10 ⟨rfl, hb⟩; have HB10 := Aside0.mk (HB9.out.trans (hb.mono HB9.out.size)); have HRp_10 := Aside0.mk (blk_below HRp_9.out hb); have HRq_10 := Aside0.mk (blk_below HRq_9.out hb); clear hb HB9 HRp_9 HRq_9; have T10 := Aside0.mk trivial) | (clear T10; go_at_call 13; (with_reducible refine (ip_Parse4.calls k bt b1 0 _ hc).mono ?_); rintro e w11 ⟨rfl, hb⟩; have HB11 := Aside0.mk (HB10.out.trans (hb.mono HB10.out.size)); have HRp_11 := Aside0.mk (blk_below HRp_10.out hb); have HRq_11 := Aside0.mk (blk_below HRq_10.out hb); clear hb HB10 HRp_10 HRq_10; have T11 := Aside0.mk trivial) | (clear T11; go_at_call 12; (with_reducible refine (ip_Parse6.gcalls k s u 0 _ hu6 (Own.ipW_below HT.out HB11.out)).mono ?_); rintro e w12 ⟨rfl, hb⟩; have HB12 := Aside0.mk (HB11.out.trans (hb.mono HB11.out.size)); have HRp_12 := Aside0.mk (blk_below HRp_11.out hb); have HRq_12 := Aside0.mk (blk_below HRq_11.out hb); clear hb HB11 HRp_11 HRq_11; have T12 := Aside0.mk trivial) | (clear T12; (with_reducible refine gate_store (t := 23) (p := 15) rfl ?_); refine wpList_store_row rfl 23 (.tmp 15) (.tmp 73) rfl w12.heap.size (arrV u) rfl rfl 23 (arrV zero8) (blk_new _ _) hiu.out hsu.out (arr_one _) ?_; rw [show (w12.alloc (.cells #[Value.int IntKind.u16 0, Value.int IntKind.u16 0, Value.int IntKind.u16 0, Value.int IntKind.u16 0, Value.int IntKind.u16 0, Value.int IntKind.u16 0, Value.int IntKind.u16 0, Value.int IntKind.u16 0] 23)).setRow w12.heap.size (arrV u) = w12.alloc (.cells (arrV u) 23) from Own.alloc_setRow _ _ _ _]; obtain ⟨w13, hw⟩ : ∃ v, v = w12.alloc (.cells (arrV u) 23) := ⟨_, rfl⟩; rw [← hw]; have HB13 := Aside0.mk (hw ▸ below_alloc HB12.out _ : Below w.heap.size w w13); have HRp_13 := Aside0.mk (hw ▸ blk_alloc HRp_12.out _ : w13.heap[w.heap.size]? = some (.cells (arrV p) 23 (0, 0))); have HRq_13 := Aside0.mk (hw ▸ blk_alloc HRq_12.out _ : w13.heap[w5.heap.size]? = some (.cells (arrV p) 23 (0, 0))); have HRu_13 := Aside0.mk (hw ▸ blk_new w12 _ : w13.heap[w12.heap.size]? = some (.cells (arrV u) 23 (0, 0))); clear hw HB12 HRp_12 HRq_12; have T13 := Aside0.mk trivial) | ((with_reducible refine gate_dst (N := 76) rfl ?_); refine gate_guard (by rfl) ?_; refine wpList_load_row rfl 23 (.tmp 15) rfl w12.heap.size rfl 23 (arrV u) (0, 0) _ HRu_13.out hu rfl hiu.out ?_) | (clear T13; go_at_call 10; (with_reducible refine (ip_Print6.gcalls k u ut _ hut (Own.ipW_below HT.out HB13.out)).mono ?_); rintro e w14 ⟨rfl, hb⟩; have HB14 := Aside0.mk (HB13.out.trans (hb.mono HB13.out.size)); have HRp_14 := Aside0.mk (blk_below HRp_13.out hb); have HRq_14 := Aside0.mk (blk_below HRq_13.out hb); have HRu_14 := Aside0.mk (blk_below HRu_13.out hb); clear hb HB13 HRp_13 HRq_13 HRu_13; have T14 := Aside0.mk trivial) | (clear T14; go_at_call 12; (with_reducible refine (ip_Parse6.gcalls k ut u 0 _ hv (Own.ipW_below HT.out HB14.out)).mono ?_); rintro e w15 ⟨rfl, hb⟩; have HB15 := Aside0.mk (HB14.out.trans (hb.mono HB14.out.size)); have HRp_15 := Aside0.mk (blk_below HRp_14.out hb); have HRq_15 := Aside0.mk (blk_below HRq_14.out hb); have HRu_15 := Aside0.mk (blk_below HRu_14.out hb); clear hb HB14 HRp_14 HRq_14 HRu_14; have T15 := Aside0.mk trivial) | (clear T15; (with_reducible refine gate_store (t := 23) (p := 17) rfl ?_); refine wpList_store_row rfl 23 (.tmp 17) (.tmp 79) rfl w15.heap.size (arrV u) rfl rfl 23 (arrV zero8) (blk_new _ _) hiu.out hsu.out (arr_one _) ?_; rw [show (w15.alloc (.cells #[Value.int IntKind.u16 0, Value.int IntKind.u16 0, Value.int IntKind.u16 0, Value.int IntKind.u16 0, Value.int IntKind.u16 0, Value.int IntKind.u16 0, Value.int IntKind.u16 0, Value.int IntKind.u16 0] 23)).setRow w15.heap.size (arrV u) = w15.alloc (.cells (arrV u) 23) from Own.alloc_setRow _ _ _ _]; obtain ⟨w16, hw⟩ : ∃ v, v = w15.alloc (.cells (arrV u) 23) := ⟨_, rfl⟩; rw [← hw]; have HB16 := Aside0.mk (hw ▸ below_alloc HB15.out _ : Below w.heap.size w w16); have HRp_16 := Aside0.mk (hw ▸ blk_alloc HRp_15.out _ : w16.heap[w.heap.size]? = some (.cells (arrV p) 23 (0, 0))); have HRq_16 := Aside0.mk (hw ▸ blk_alloc HRq_15.out _ : w16.heap[w5.heap.size]? = some (.cells (arrV p) 23 (0, 0))); have HRu_16 := Aside0.mk (hw ▸ blk_alloc HRu_15.out _ : w16.heap[w12.heap.size]? = some (.cells (arrV u) 23 (0, 0))); have HRv_16 := Aside0.mk (hw ▸ blk_new w15 _ : w16.heap[w15.heap.size]? = some (.cells (arrV u) 23 (0, 0))); clear hw HB15 HRp_15 HRq_15 HRu_15; have T16 := Aside0.mk trivial) | (clear T16; go_at_call 9; (with_reducible refine (sprlaw7_first.calls 0 true _ rfl (Own.ipW_below HT.out HB16.out)).mono ?_); rintro e w17 ⟨rfl, hb⟩; have HB17 := Aside0.mk (HB16.out.trans (hb.mono HB16.out.size)); have HRp_17 := Aside0.mk (blk_below HRp_16.out hb); have HRq_17 := Aside0.mk (blk_below HRq_16.out hb); have HRu_17 := Aside0.mk (blk_below HRu_16.out hb); have HRv_17 := Aside0.mk (blk_below HRv_16.out hb); clear hb HB16 HRp_16 HRq_16 HRu_16 HRv_16; have T17 := Aside0.mk trivial) | ((with_reducible refine gate_dst (N := 103) rfl ?_); refine gate_guard (by rfl) ?_; refine wpList_load_row rfl 23 (.tmp 15) rfl w12.heap.size rfl 23 (arrV u) (0, 0) _ HRu_17.out hu rfl hiu.out ?_) | ((with_reducible refine gate_dst (N := 113) rfl ?_); refine gate_guard (by rfl) ?_; refine wpList_load_row rfl 23 (.tmp 17) rfl w15.heap.size rfl 23 (arrV u) (0, 0) _ HRv_17.out hu rfl hiu.out ?_) | ((with_reducible refine gate_dst (N := 114) rfl ?_); refine gate_guard (by rfl) ?_; refine wpList_load_row rfl 23 (.tmp 15) rfl w12.heap.size rfl 23 (arrV u) (0, 0) _ HRu_17.out hu rfl hiu.out ?_))
  go_ret
  exact ⟨rfl, HB17.out⟩
set_option maxHeartbeats 4000000 in
set_option maxRecDepth 100000 in
theorem sprlaw7_IpBack.w01 (k : Nat) (n : Int) (p : List Int) (s a t bt ut : ByteArray) (b1 b2 : Int) (u : List Int) (u2 : Int) (w : World) (hT : Own.ipW w) (hs : s.size ≤ 5000) (hp8 : p.length = 8) (hu8 : u.length = 8) (ha : ip_Print4.f k n = some a) (hx : ip_Parse4.f k a = some (n, 0)) (ht : ip_Print6.g k p = some t) (hq : ip_Parse6.g k t = some (p, 0)) (he : ip_Ends.f k a = some true) (hb : ip_Parse4.f k s = some (b1, 0)) (hbt : ip_Print4.f k b1 = some bt) (hc : ip_Parse4.f k bt = some (b1, 0)) (hu6 : ip_Parse6.g k s = some (zero8, u2)) (hut : ip_Print6.g k zero8 = some ut) (hv : ip_Parse6.g k ut = some (zero8, 0)) (hu2 : u2 ≠ 0) :
    Calls Tryd.prog 8 #[.int .u32 n, .agg (arrV p), .string s] w fun e w' => e = .returned (.bool true) ∧ Below w.heap.size w w' := by
  have HT := Aside0.mk hT
  have hu := Tryd.underlying23
  have hi0 : (Tryd.prog.info? 23).map (·.size) = some (arrV zero8).size := by kernel_rfl
  have T0 := Aside0.mk trivial
  obtain ⟨w0, hw0⟩ : ∃ w0, w0 = w.alloc (.cells (arrV p) 23) := ⟨_, rfl⟩
  have HB0 : Aside0 (Below w.heap.size w w0) := ⟨by rw [hw0]; exact below_alloc (Below.refl _ _) _⟩
  have HRp_0 : Aside0 (w0.heap[w.heap.size]? = some (.cells (arrV p) 23 (0, 0))) := ⟨by rw [hw0]; exact blk_new _ _⟩
  have hu2' := Tryd.underlying22
  have hip : Aside0 ((Tryd.prog.info? 23).map (·.size) = some (arrV p).size) := ⟨by rw [arr_size, hp8]; kernel_rfl⟩
  have hsp : Aside0 ((arrV zero8).size = (arrV p).size) := ⟨by rw [arr_size, arr_size, hp8]; rfl⟩
  have hiu : Aside0 ((Tryd.prog.info? 23).map (·.size) = some (arrV zero8).size) := ⟨hi0⟩
  have heqp := fun w' => arr_eq (P := Tryd.prog) (t := 23) (e := 22) (n := 8) Tryd.underlying23 Tryd.underlying22 (fun _ => by kernel_rfl) (fun _ => by kernel_rfl) 9998 p p hp8 hp8 w'
  rw [decide_eq_true (rfl : p = p)] at heqp
  have hequ := fun w' => arr_eq (P := Tryd.prog) (t := 23) (e := 22) (n := 8) Tryd.underlying23 Tryd.underlying22 (fun _ => by kernel_rfl) (fun _ => by kernel_rfl) 9998 zero8 zero8 zero8_len zero8_len w'
  rw [decide_eq_true (rfl : zero8 = zero8)] at hequ
  have heq0 : ∀ w', (Op.equalIn (9998 + 2) 23 (.agg (arrV zero8)) (.agg #[Value.int IntKind.u16 0, Value.int IntKind.u16 0, Value.int IntKind.u16 0, Value.int IntKind.u16 0, Value.int IntKind.u16 0, Value.int IntKind.u16 0, Value.int IntKind.u16 0, Value.int IntKind.u16 0])).run Tryd.prog w' = .ok true w' := hequ
  have HP8 := Aside0.mk hp8
  have HU8 := Aside0.mk hu8
  clear hp8 hu8
  have q0 : decide ((5000 : Int) < (s.size : Int)) = false := decide_eq_false (by omega)
  have eu : (u2 == 0) = false := beq_eq_false_iff_ne.2 hu2
  go_enter Tryd.func8, Tryd.ntmps8
  go_wp2_with (first | (clear T0; go_at_call 9; rw [← hw0]; clear hw0; (with_reducible refine (sprlaw7_first.calls 0 true _ rfl (Own.ipW_below HT.out HB0.out)).mono ?_); rintro e w1 ⟨rfl, hb⟩; have HB1 := Aside0.mk (HB0.out.trans (hb.mono HB0.out.size)); have HRp_1 := Aside0.mk (blk_below HRp_0.out hb); clear hb HB0 HRp_0; have T1 := Aside0.mk trivial) | (clear T1; go_at_call 18; (with_reducible refine (ip_Print4.calls k n a _ ha (Own.ipW_below HT.out HB1.out)).mono ?_); rintro e w2 ⟨rfl, hb⟩; have HB2 := Aside0.mk (HB1.out.trans (hb.mono HB1.out.size)); have HRp_2 := Aside0.mk (blk_below HRp_1.out hb); clear hb HB1 HRp_1; have T2 := Aside0.mk trivial) | (clear T2; go_at_call 13; (with_reducible refine (ip_Parse4.calls k a n 0 _ hx).mono ?_); rintro e w3 ⟨rfl, hb⟩; have HB3 := Aside0.mk (HB2.out.trans (hb.mono HB2.out.size)); have HRp_3 := Aside0.mk (blk_below HRp_2.out hb); clear hb HB2 HRp_2; have T3 := Aside0.mk trivial) | ((with_reducible refine gate_dst (N := 32) rfl ?_); refine gate_guard (by rfl) ?_; refine wpList_load_row rfl 23 (.tmp 4) rfl w.heap.size rfl 23 (arrV p) (0, 0) _ HRp_3.out hu rfl hip.out ?_) | (clear T3; go_at_call 10; (with_reducible refine (ip_Print6.gcalls k p t _ ht (Own.ipW_below HT.out HB3.out)).mono ?_); rintro e w4 ⟨rfl, hb⟩; have HB4 := Aside0.mk (HB3.out.trans (hb.mono HB3.out.size)); have HRp_4 := Aside0.mk (blk_below HRp_3.out hb); clear hb HB3 HRp_3; have T4 := Aside0.mk trivial) | (clear T4; go_at_call 12; (with_reducible refine (ip_Parse6.gcalls k t p 0 _ hq (Own.ipW_below HT.out HB4.out)).mono ?_); rintro e w5 ⟨rfl, hb⟩; have HB5 := Aside0.mk (HB4.out.trans (hb.mono HB4.out.size)); have HRp_5 := Aside0.mk (blk_below HRp_4.out hb); clear hb HB4 HRp_4; have T5 := Aside0.mk trivial) | (clear T5; (with_reducible refine gate_store (t := 23) (p := 9) rfl ?_); refine wpList_store_row rfl 23 (.tmp 9) (.tmp 35) rfl w5.heap.size (arrV p) rfl rfl 23 (arrV zero8) (blk_new _ _) hip.out hsp.out (arr_one _) ?_; rw [show (w5.alloc (.cells #[Value.int IntKind.u16 0, Value.int IntKind.u16 0, Value.int IntKind.u16 0, Value.int IntKind.u16 0, Value.int IntKind.u16 0, Value.int IntKind.u16 0, Value.int IntKind.u16 0, Value.int IntKind.u16 0] 23)).setRow w5.heap.size (arrV p) = w5.alloc (.cells (arrV p) 23) from Own.alloc_setRow _ _ _ _]; obtain ⟨w6, hw⟩ : ∃ v, v = w5.alloc (.cells (arrV p) 23) := ⟨_, rfl⟩; rw [← hw]; have HB6 := Aside0.mk (hw ▸ below_alloc HB5.out _ : Below w.heap.size w w6); have HRp_6 := Aside0.mk (hw ▸ blk_alloc HRp_5.out _ : w6.heap[w.heap.size]? = some (.cells (arrV p) 23 (0, 0))); have HRq_6 := Aside0.mk (hw ▸ blk_new w5 _ : w6.heap[w5.heap.size]? = some (.cells (arrV p) 23 (0, 0))); clear hw HB5 HRp_5; have T6 := Aside0.mk trivial) | ((with_reducible refine gate_dst (N := 49) rfl ?_); refine gate_guard (by rfl) ?_; refine wpList_load_row rfl 23 (.tmp 9) rfl w5.heap.size rfl 23 (arrV p) (0, 0) _ HRq_6.out hu rfl hip.out ?_) | ((with_reducible refine gate_dst (N := 50) rfl ?_); refine gate_guard (by rfl) ?_; refine wpList_load_row rfl 23 (.tmp 4) rfl w.heap.size rfl 23 (arrV p) (0, 0) _ HRp_6.out hu rfl hip.out ?_) | (clear T6; go_at_call 18; (with_reducible refine (ip_Print4.calls k n a _ ha (Own.ipW_below HT.out HB6.out)).mono ?_); rintro e w7 ⟨rfl, hb⟩; have HB7 := Aside0.mk (HB6.out.trans (hb.mono HB6.out.size)); have HRp_7 := Aside0.mk (blk_below HRp_6.out hb); have HRq_7 := Aside0.mk (blk_below HRq_6.out hb); clear hb HB6 HRp_6 HRq_6; have T7 := Aside0.mk trivial) | (clear T7; go_at_call 16; (with_reducible refine (ip_Ends.calls k a true _ he).mono ?_); rintro e w8 ⟨rfl, hb⟩; have HB8 := Aside0.mk (HB7.out.trans (hb.mono HB7.out.size)); have HRp_8 := Aside0.mk (blk_below HRp_7.out hb); have HRq_8 := Aside0.mk (blk_below HRq_7.out hb); clear hb HB7 HRp_7 HRq_7; have T8 := Aside0.mk trivial) | (clear T8; go_at_call 13; (with_reducible refine (ip_Parse4.calls k s b1 0 _ hb).mono ?_); rintro e w9 ⟨rfl, hb⟩; have HB9 := Aside0.mk (HB8.out.trans (hb.mono HB8.out.size)); have HRp_9 := Aside0.mk (blk_below HRp_8.out hb); have HRq_9 := Aside0.mk (blk_below HRq_8.out hb); clear hb HB8 HRp_8 HRq_8; have T9 := Aside0.mk trivial) | (clear T9; go_at_call 18; (with_reducible refine (ip_Print4.calls k b1 bt _ hbt (Own.ipW_below HT.out HB9.out)).mono ?_); rintro e w10 ⟨rfl, hb⟩; have HB10 := Aside0.mk (HB9.out.trans (hb.mono HB9.out.size)); have HRp_10 := Aside0.mk (blk_below HRp_9.out hb); have HRq_10 := Aside0.mk (blk_below HRq_9.out hb); clear hb HB9 HRp_9 HRq_9; have T10 := Aside0.mk trivial) | (clear T10; go_at_call 13; (with_reducible refine (ip_Parse4.calls k bt b1 0 _ hc).mono ?_); rintro e w11 ⟨rfl, hb⟩; have HB11 := Aside0.mk (HB10.out.trans (hb.mono HB10.out.size)); have HRp_11 := Aside0.mk (blk_below HRp_10.out hb); have HRq_11 := Aside0.mk (blk_below HRq_10.out hb); clear hb HB10 HRp_10 HRq_10; have T11 := Aside0.mk trivial) | (clear T11; go_at_call 12; (with_reducible refine (ip_Parse6.gcalls k s zero8 u2 _ hu6 (Own.ipW_below HT.out HB11.out)).mono ?_); rintro e w12 ⟨rfl, hb⟩; have HB12 := Aside0.mk (HB11.out.trans (hb.mono HB11.out.size)); have HRp_12 := Aside0.mk (blk_below HRp_11.out hb); have HRq_12 := Aside0.mk (blk_below HRq_11.out hb); clear hb HB11 HRp_11 HRq_11; have T12 := Aside0.mk trivial) | (clear T12; (with_reducible refine gate_store (t := 23) (p := 15) rfl ?_); refine wpList_store_row rfl 23 (.tmp 15) (.tmp 73) rfl w12.heap.size (arrV zero8) rfl rfl 23 (arrV zero8) (blk_new _ _) hi0 rfl (arr_one _) ?_; rw [show (w12.alloc (.cells #[Value.int IntKind.u16 0, Value.int IntKind.u16 0, Value.int IntKind.u16 0, Value.int IntKind.u16 0, Value.int IntKind.u16 0, Value.int IntKind.u16 0, Value.int IntKind.u16 0, Value.int IntKind.u16 0] 23)).setRow w12.heap.size (arrV zero8) = w12.alloc (.cells (arrV zero8) 23) from Own.alloc_setRow _ _ _ _]; obtain ⟨w13, hw⟩ : ∃ v, v = w12.alloc (.cells (arrV zero8) 23) := ⟨_, rfl⟩; rw [← hw]; have HB13 := Aside0.mk (hw ▸ below_alloc HB12.out _ : Below w.heap.size w w13); have HRp_13 := Aside0.mk (hw ▸ blk_alloc HRp_12.out _ : w13.heap[w.heap.size]? = some (.cells (arrV p) 23 (0, 0))); have HRq_13 := Aside0.mk (hw ▸ blk_alloc HRq_12.out _ : w13.heap[w5.heap.size]? = some (.cells (arrV p) 23 (0, 0))); have HRu_13 := Aside0.mk (hw ▸ blk_new w12 _ : w13.heap[w12.heap.size]? = some (.cells (arrV zero8) 23 (0, 0))); clear hw HB12 HRp_12 HRq_12; have T13 := Aside0.mk trivial) | ((with_reducible refine gate_dst (N := 76) rfl ?_); refine gate_guard (by rfl) ?_; refine wpList_load_row rfl 23 (.tmp 15) rfl w12.heap.size rfl 23 (arrV zero8) (0, 0) _ HRu_13.out hu rfl hiu.out ?_) | (clear T13; go_at_call 10; (with_reducible refine (ip_Print6.gcalls k zero8 ut _ hut (Own.ipW_below HT.out HB13.out)).mono ?_); rintro e w14 ⟨rfl, hb⟩; have HB14 := Aside0.mk (HB13.out.trans (hb.mono HB13.out.size)); have HRp_14 := Aside0.mk (blk_below HRp_13.out hb); have HRq_14 := Aside0.mk (blk_below HRq_13.out hb); have HRu_14 := Aside0.mk (blk_below HRu_13.out hb); clear hb HB13 HRp_13 HRq_13 HRu_13; have T14 := Aside0.mk trivial) | (clear T14; go_at_call 12; (with_reducible refine (ip_Parse6.gcalls k ut zero8 0 _ hv (Own.ipW_below HT.out HB14.out)).mono ?_); rintro e w15 ⟨rfl, hb⟩; have HB15 := Aside0.mk (HB14.out.trans (hb.mono HB14.out.size)); have HRp_15 := Aside0.mk (blk_below HRp_14.out hb); have HRq_15 := Aside0.mk (blk_below HRq_14.out hb); have HRu_15 := Aside0.mk (blk_below HRu_14.out hb); clear hb HB14 HRp_14 HRq_14 HRu_14; have T15 := Aside0.mk trivial) | (clear T15; (with_reducible refine gate_store (t := 23) (p := 17) rfl ?_); refine wpList_store_row rfl 23 (.tmp 17) (.tmp 79) rfl w15.heap.size (arrV zero8) rfl rfl 23 (arrV zero8) (blk_new _ _) hi0 rfl (arr_one _) ?_; rw [show (w15.alloc (.cells #[Value.int IntKind.u16 0, Value.int IntKind.u16 0, Value.int IntKind.u16 0, Value.int IntKind.u16 0, Value.int IntKind.u16 0, Value.int IntKind.u16 0, Value.int IntKind.u16 0, Value.int IntKind.u16 0] 23)).setRow w15.heap.size (arrV zero8) = w15.alloc (.cells (arrV zero8) 23) from Own.alloc_setRow _ _ _ _]; obtain ⟨w16, hw⟩ : ∃ v, v = w15.alloc (.cells (arrV zero8) 23) := ⟨_, rfl⟩; rw [← hw]; have HB16 := Aside0.mk (hw ▸ below_alloc HB15.out _ : Below w.heap.size w w16); have HRp_16 := Aside0.mk (hw ▸ blk_alloc HRp_15.out _ : w16.heap[w.heap.size]? = some (.cells (arrV p) 23 (0, 0))); have HRq_16 := Aside0.mk (hw ▸ blk_alloc HRq_15.out _ : w16.heap[w5.heap.size]? = some (.cells (arrV p) 23 (0, 0))); have HRu_16 := Aside0.mk (hw ▸ blk_alloc HRu_15.out _ : w16.heap[w12.heap.size]? = some (.cells (arrV zero8) 23 (0, 0))); have HRv_16 := Aside0.mk (hw ▸ blk_new w15 _ : w16.heap[w15.heap.size]? = some (.cells (arrV zero8) 23 (0, 0))); clear hw HB15 HRp_15 HRq_15 HRu_15; have T16 := Aside0.mk trivial) | (clear T16; go_at_call 9; (with_reducible refine (sprlaw7_first.calls 0 true _ rfl (Own.ipW_below HT.out HB16.out)).mono ?_); rintro e w17 ⟨rfl, hb⟩; have HB17 := Aside0.mk (HB16.out.trans (hb.mono HB16.out.size)); have HRp_17 := Aside0.mk (blk_below HRp_16.out hb); have HRq_17 := Aside0.mk (blk_below HRq_16.out hb); have HRu_17 := Aside0.mk (blk_below HRu_16.out hb); have HRv_17 := Aside0.mk (blk_below HRv_16.out hb); clear hb HB16 HRp_16 HRq_16 HRu_16 HRv_16; have T17 := Aside0.mk trivial) | ((with_reducible refine gate_dst (N := 103) rfl ?_); refine gate_guard (by rfl) ?_; refine wpList_load_row rfl 23 (.tmp 15) rfl w12.heap.size rfl 23 (arrV zero8) (0, 0) _ HRu_17.out hu rfl hiu.out ?_) | ((with_reducible refine gate_dst (N := 113) rfl ?_); refine gate_guard (by rfl) ?_; refine wpList_load_row rfl 23 (.tmp 17) rfl w15.heap.size rfl 23 (arrV zero8) (0, 0) _ HRv_17.out hu rfl hiu.out ?_) | ((with_reducible refine gate_dst (N := 114) rfl ?_); refine gate_guard (by rfl) ?_; refine wpList_load_row rfl 23 (.tmp 15) rfl w12.heap.size rfl 23 (arrV zero8) (0, 0) _ HRu_17.out hu rfl hiu.out ?_))
  go_ret
  exact ⟨rfl, HB17.out⟩
set_option maxHeartbeats 4000000 in
set_option maxRecDepth 100000 in
theorem sprlaw7_IpBack.w10 (k : Nat) (n : Int) (p : List Int) (s a t bt ut : ByteArray) (b1 b2 : Int) (u : List Int) (u2 : Int) (w : World) (hT : Own.ipW w) (hs : s.size ≤ 5000) (hp8 : p.length = 8) (hu8 : u.length = 8) (ha : ip_Print4.f k n = some a) (hx : ip_Parse4.f k a = some (n, 0)) (ht : ip_Print6.g k p = some t) (hq : ip_Parse6.g k t = some (p, 0)) (he : ip_Ends.f k a = some true) (hb : ip_Parse4.f k s = some (0, b2)) (hbt : ip_Print4.f k 0 = some bt) (hc : ip_Parse4.f k bt = some (0, 0)) (hu6 : ip_Parse6.g k s = some (u, 0)) (hut : ip_Print6.g k u = some ut) (hv : ip_Parse6.g k ut = some (u, 0)) (hb2 : b2 ≠ 0) :
    Calls Tryd.prog 8 #[.int .u32 n, .agg (arrV p), .string s] w fun e w' => e = .returned (.bool true) ∧ Below w.heap.size w w' := by
  have HT := Aside0.mk hT
  have hu := Tryd.underlying23
  have hi0 : (Tryd.prog.info? 23).map (·.size) = some (arrV zero8).size := by kernel_rfl
  have T0 := Aside0.mk trivial
  obtain ⟨w0, hw0⟩ : ∃ w0, w0 = w.alloc (.cells (arrV p) 23) := ⟨_, rfl⟩
  have HB0 : Aside0 (Below w.heap.size w w0) := ⟨by rw [hw0]; exact below_alloc (Below.refl _ _) _⟩
  have HRp_0 : Aside0 (w0.heap[w.heap.size]? = some (.cells (arrV p) 23 (0, 0))) := ⟨by rw [hw0]; exact blk_new _ _⟩
  have hu2' := Tryd.underlying22
  have hip : Aside0 ((Tryd.prog.info? 23).map (·.size) = some (arrV p).size) := ⟨by rw [arr_size, hp8]; kernel_rfl⟩
  have hsp : Aside0 ((arrV zero8).size = (arrV p).size) := ⟨by rw [arr_size, arr_size, hp8]; rfl⟩
  have hiu : Aside0 ((Tryd.prog.info? 23).map (·.size) = some (arrV u).size) := ⟨by rw [arr_size, hu8]; kernel_rfl⟩
  have hsu : Aside0 ((arrV zero8).size = (arrV u).size) := ⟨by rw [arr_size, arr_size, hu8]; rfl⟩
  have heqp := fun w' => arr_eq (P := Tryd.prog) (t := 23) (e := 22) (n := 8) Tryd.underlying23 Tryd.underlying22 (fun _ => by kernel_rfl) (fun _ => by kernel_rfl) 9998 p p hp8 hp8 w'
  rw [decide_eq_true (rfl : p = p)] at heqp
  have hequ := fun w' => arr_eq (P := Tryd.prog) (t := 23) (e := 22) (n := 8) Tryd.underlying23 Tryd.underlying22 (fun _ => by kernel_rfl) (fun _ => by kernel_rfl) 9998 u u hu8 hu8 w'
  rw [decide_eq_true (rfl : u = u)] at hequ
  have HP8 := Aside0.mk hp8
  have HU8 := Aside0.mk hu8
  clear hp8 hu8
  have q0 : decide ((5000 : Int) < (s.size : Int)) = false := decide_eq_false (by omega)
  have eb : (b2 == 0) = false := beq_eq_false_iff_ne.2 hb2
  go_enter Tryd.func8, Tryd.ntmps8
  go_wp2_with (first | (clear T0; go_at_call 9; rw [← hw0]; clear hw0; (with_reducible refine (sprlaw7_first.calls 0 true _ rfl (Own.ipW_below HT.out HB0.out)).mono ?_); rintro e w1 ⟨rfl, hb⟩; have HB1 := Aside0.mk (HB0.out.trans (hb.mono HB0.out.size)); have HRp_1 := Aside0.mk (blk_below HRp_0.out hb); clear hb HB0 HRp_0; have T1 := Aside0.mk trivial) | (clear T1; go_at_call 18; (with_reducible refine (ip_Print4.calls k n a _ ha (Own.ipW_below HT.out HB1.out)).mono ?_); rintro e w2 ⟨rfl, hb⟩; have HB2 := Aside0.mk (HB1.out.trans (hb.mono HB1.out.size)); have HRp_2 := Aside0.mk (blk_below HRp_1.out hb); clear hb HB1 HRp_1; have T2 := Aside0.mk trivial) | (clear T2; go_at_call 13; (with_reducible refine (ip_Parse4.calls k a n 0 _ hx).mono ?_); rintro e w3 ⟨rfl, hb⟩; have HB3 := Aside0.mk (HB2.out.trans (hb.mono HB2.out.size)); have HRp_3 := Aside0.mk (blk_below HRp_2.out hb); clear hb HB2 HRp_2; have T3 := Aside0.mk trivial) | ((with_reducible refine gate_dst (N := 32) rfl ?_); refine gate_guard (by rfl) ?_; refine wpList_load_row rfl 23 (.tmp 4) rfl w.heap.size rfl 23 (arrV p) (0, 0) _ HRp_3.out hu rfl hip.out ?_) | (clear T3; go_at_call 10; (with_reducible refine (ip_Print6.gcalls k p t _ ht (Own.ipW_below HT.out HB3.out)).mono ?_); rintro e w4 ⟨rfl, hb⟩; have HB4 := Aside0.mk (HB3.out.trans (hb.mono HB3.out.size)); have HRp_4 := Aside0.mk (blk_below HRp_3.out hb); clear hb HB3 HRp_3; have T4 := Aside0.mk trivial) | (clear T4; go_at_call 12; (with_reducible refine (ip_Parse6.gcalls k t p 0 _ hq (Own.ipW_below HT.out HB4.out)).mono ?_); rintro e w5 ⟨rfl, hb⟩; have HB5 := Aside0.mk (HB4.out.trans (hb.mono HB4.out.size)); have HRp_5 := Aside0.mk (blk_below HRp_4.out hb); clear hb HB4 HRp_4; have T5 := Aside0.mk trivial) | (clear T5; (with_reducible refine gate_store (t := 23) (p := 9) rfl ?_); refine wpList_store_row rfl 23 (.tmp 9) (.tmp 35) rfl w5.heap.size (arrV p) rfl rfl 23 (arrV zero8) (blk_new _ _) hip.out hsp.out (arr_one _) ?_; rw [show (w5.alloc (.cells #[Value.int IntKind.u16 0, Value.int IntKind.u16 0, Value.int IntKind.u16 0, Value.int IntKind.u16 0, Value.int IntKind.u16 0, Value.int IntKind.u16 0, Value.int IntKind.u16 0, Value.int IntKind.u16 0] 23)).setRow w5.heap.size (arrV p) = w5.alloc (.cells (arrV p) 23) from Own.alloc_setRow _ _ _ _]; obtain ⟨w6, hw⟩ : ∃ v, v = w5.alloc (.cells (arrV p) 23) := ⟨_, rfl⟩; rw [← hw]; have HB6 := Aside0.mk (hw ▸ below_alloc HB5.out _ : Below w.heap.size w w6); have HRp_6 := Aside0.mk (hw ▸ blk_alloc HRp_5.out _ : w6.heap[w.heap.size]? = some (.cells (arrV p) 23 (0, 0))); have HRq_6 := Aside0.mk (hw ▸ blk_new w5 _ : w6.heap[w5.heap.size]? = some (.cells (arrV p) 23 (0, 0))); clear hw HB5 HRp_5; have T6 := Aside0.mk trivial) | ((with_reducible refine gate_dst (N := 49) rfl ?_); refine gate_guard (by rfl) ?_; refine wpList_load_row rfl 23 (.tmp 9) rfl w5.heap.size rfl 23 (arrV p) (0, 0) _ HRq_6.out hu rfl hip.out ?_) | ((with_reducible refine gate_dst (N := 50) rfl ?_); refine gate_guard (by rfl) ?_; refine wpList_load_row rfl 23 (.tmp 4) rfl w.heap.size rfl 23 (arrV p) (0, 0) _ HRp_6.out hu rfl hip.out ?_) | (clear T6; go_at_call 18; (with_reducible refine (ip_Print4.calls k n a _ ha (Own.ipW_below HT.out HB6.out)).mono ?_); rintro e w7 ⟨rfl, hb⟩; have HB7 := Aside0.mk (HB6.out.trans (hb.mono HB6.out.size)); have HRp_7 := Aside0.mk (blk_below HRp_6.out hb); have HRq_7 := Aside0.mk (blk_below HRq_6.out hb); clear hb HB6 HRp_6 HRq_6; have T7 := Aside0.mk trivial) | (clear T7; go_at_call 16; (with_reducible refine (ip_Ends.calls k a true _ he).mono ?_); rintro e w8 ⟨rfl, hb⟩; have HB8 := Aside0.mk (HB7.out.trans (hb.mono HB7.out.size)); have HRp_8 := Aside0.mk (blk_below HRp_7.out hb); have HRq_8 := Aside0.mk (blk_below HRq_7.out hb); clear hb HB7 HRp_7 HRq_7; have T8 := Aside0.mk trivial) | (clear T8; go_at_call 13; (with_reducible refine (ip_Parse4.calls k s 0 b2 _ hb).mono ?_); rintro e w9 ⟨rfl, hb⟩; have HB9 := Aside0.mk (HB8.out.trans (hb.mono HB8.out.size)); have HRp_9 := Aside0.mk (blk_below HRp_8.out hb); have HRq_9 := Aside0.mk (blk_below HRq_8.out hb); clear hb HB8 HRp_8 HRq_8; have T9 := Aside0.mk trivial) | (clear T9; go_at_call 18; (with_reducible refine (ip_Print4.calls k 0 bt _ hbt (Own.ipW_below HT.out HB9.out)).mono ?_); rintro e w10 ⟨rfl, hb⟩; have HB10 := Aside0.mk (HB9.out.trans (hb.mono HB9.out.size)); have HRp_10 := Aside0.mk (blk_below HRp_9.out hb); have HRq_10 := Aside0.mk (blk_below HRq_9.out hb); clear hb HB9 HRp_9 HRq_9; have T10 := Aside0.mk trivial) | (clear T10; go_at_call 13; (with_reducible refine (ip_Parse4.calls k bt 0 0 _ hc).mono ?_); rintro e w11 ⟨rfl, hb⟩; have HB11 := Aside0.mk (HB10.out.trans (hb.mono HB10.out.size)); have HRp_11 := Aside0.mk (blk_below HRp_10.out hb); have HRq_11 := Aside0.mk (blk_below HRq_10.out hb); clear hb HB10 HRp_10 HRq_10; have T11 := Aside0.mk trivial) | (clear T11; go_at_call 12; (with_reducible refine (ip_Parse6.gcalls k s u 0 _ hu6 (Own.ipW_below HT.out HB11.out)).mono ?_); rintro e w12 ⟨rfl, hb⟩; have HB12 := Aside0.mk (HB11.out.trans (hb.mono HB11.out.size)); have HRp_12 := Aside0.mk (blk_below HRp_11.out hb); have HRq_12 := Aside0.mk (blk_below HRq_11.out hb); clear hb HB11 HRp_11 HRq_11; have T12 := Aside0.mk trivial) | (clear T12; (with_reducible refine gate_store (t := 23) (p := 15) rfl ?_); refine wpList_store_row rfl 23 (.tmp 15) (.tmp 73) rfl w12.heap.size (arrV u) rfl rfl 23 (arrV zero8) (blk_new _ _) hiu.out hsu.out (arr_one _) ?_; rw [show (w12.alloc (.cells #[Value.int IntKind.u16 0, Value.int IntKind.u16 0, Value.int IntKind.u16 0, Value.int IntKind.u16 0, Value.int IntKind.u16 0, Value.int IntKind.u16 0, Value.int IntKind.u16 0, Value.int IntKind.u16 0] 23)).setRow w12.heap.size (arrV u) = w12.alloc (.cells (arrV u) 23) from Own.alloc_setRow _ _ _ _]; obtain ⟨w13, hw⟩ : ∃ v, v = w12.alloc (.cells (arrV u) 23) := ⟨_, rfl⟩; rw [← hw]; have HB13 := Aside0.mk (hw ▸ below_alloc HB12.out _ : Below w.heap.size w w13); have HRp_13 := Aside0.mk (hw ▸ blk_alloc HRp_12.out _ : w13.heap[w.heap.size]? = some (.cells (arrV p) 23 (0, 0))); have HRq_13 := Aside0.mk (hw ▸ blk_alloc HRq_12.out _ : w13.heap[w5.heap.size]? = some (.cells (arrV p) 23 (0, 0))); have HRu_13 := Aside0.mk (hw ▸ blk_new w12 _ : w13.heap[w12.heap.size]? = some (.cells (arrV u) 23 (0, 0))); clear hw HB12 HRp_12 HRq_12; have T13 := Aside0.mk trivial) | ((with_reducible refine gate_dst (N := 76) rfl ?_); refine gate_guard (by rfl) ?_; refine wpList_load_row rfl 23 (.tmp 15) rfl w12.heap.size rfl 23 (arrV u) (0, 0) _ HRu_13.out hu rfl hiu.out ?_) | (clear T13; go_at_call 10; (with_reducible refine (ip_Print6.gcalls k u ut _ hut (Own.ipW_below HT.out HB13.out)).mono ?_); rintro e w14 ⟨rfl, hb⟩; have HB14 := Aside0.mk (HB13.out.trans (hb.mono HB13.out.size)); have HRp_14 := Aside0.mk (blk_below HRp_13.out hb); have HRq_14 := Aside0.mk (blk_below HRq_13.out hb); have HRu_14 := Aside0.mk (blk_below HRu_13.out hb); clear hb HB13 HRp_13 HRq_13 HRu_13; have T14 := Aside0.mk trivial) | (clear T14; go_at_call 12; (with_reducible refine (ip_Parse6.gcalls k ut u 0 _ hv (Own.ipW_below HT.out HB14.out)).mono ?_); rintro e w15 ⟨rfl, hb⟩; have HB15 := Aside0.mk (HB14.out.trans (hb.mono HB14.out.size)); have HRp_15 := Aside0.mk (blk_below HRp_14.out hb); have HRq_15 := Aside0.mk (blk_below HRq_14.out hb); have HRu_15 := Aside0.mk (blk_below HRu_14.out hb); clear hb HB14 HRp_14 HRq_14 HRu_14; have T15 := Aside0.mk trivial) | (clear T15; (with_reducible refine gate_store (t := 23) (p := 17) rfl ?_); refine wpList_store_row rfl 23 (.tmp 17) (.tmp 79) rfl w15.heap.size (arrV u) rfl rfl 23 (arrV zero8) (blk_new _ _) hiu.out hsu.out (arr_one _) ?_; rw [show (w15.alloc (.cells #[Value.int IntKind.u16 0, Value.int IntKind.u16 0, Value.int IntKind.u16 0, Value.int IntKind.u16 0, Value.int IntKind.u16 0, Value.int IntKind.u16 0, Value.int IntKind.u16 0, Value.int IntKind.u16 0] 23)).setRow w15.heap.size (arrV u) = w15.alloc (.cells (arrV u) 23) from Own.alloc_setRow _ _ _ _]; obtain ⟨w16, hw⟩ : ∃ v, v = w15.alloc (.cells (arrV u) 23) := ⟨_, rfl⟩; rw [← hw]; have HB16 := Aside0.mk (hw ▸ below_alloc HB15.out _ : Below w.heap.size w w16); have HRp_16 := Aside0.mk (hw ▸ blk_alloc HRp_15.out _ : w16.heap[w.heap.size]? = some (.cells (arrV p) 23 (0, 0))); have HRq_16 := Aside0.mk (hw ▸ blk_alloc HRq_15.out _ : w16.heap[w5.heap.size]? = some (.cells (arrV p) 23 (0, 0))); have HRu_16 := Aside0.mk (hw ▸ blk_alloc HRu_15.out _ : w16.heap[w12.heap.size]? = some (.cells (arrV u) 23 (0, 0))); have HRv_16 := Aside0.mk (hw ▸ blk_new w15 _ : w16.heap[w15.heap.size]? = some (.cells (arrV u) 23 (0, 0))); clear hw HB15 HRp_15 HRq_15 HRu_15; have T16 := Aside0.mk trivial) | (clear T16; go_at_call 9; (with_reducible refine (sprlaw7_first.calls 0 true _ rfl (Own.ipW_below HT.out HB16.out)).mono ?_); rintro e w17 ⟨rfl, hb⟩; have HB17 := Aside0.mk (HB16.out.trans (hb.mono HB16.out.size)); have HRp_17 := Aside0.mk (blk_below HRp_16.out hb); have HRq_17 := Aside0.mk (blk_below HRq_16.out hb); have HRu_17 := Aside0.mk (blk_below HRu_16.out hb); have HRv_17 := Aside0.mk (blk_below HRv_16.out hb); clear hb HB16 HRp_16 HRq_16 HRu_16 HRv_16; have T17 := Aside0.mk trivial) | ((with_reducible refine gate_dst (N := 103) rfl ?_); refine gate_guard (by rfl) ?_; refine wpList_load_row rfl 23 (.tmp 15) rfl w12.heap.size rfl 23 (arrV u) (0, 0) _ HRu_17.out hu rfl hiu.out ?_) | ((with_reducible refine gate_dst (N := 113) rfl ?_); refine gate_guard (by rfl) ?_; refine wpList_load_row rfl 23 (.tmp 17) rfl w15.heap.size rfl 23 (arrV u) (0, 0) _ HRv_17.out hu rfl hiu.out ?_) | ((with_reducible refine gate_dst (N := 114) rfl ?_); refine gate_guard (by rfl) ?_; refine wpList_load_row rfl 23 (.tmp 15) rfl w12.heap.size rfl 23 (arrV u) (0, 0) _ HRu_17.out hu rfl hiu.out ?_))
  go_ret
  exact ⟨rfl, HB17.out⟩
set_option maxHeartbeats 4000000 in
set_option maxRecDepth 100000 in
theorem sprlaw7_IpBack.w11 (k : Nat) (n : Int) (p : List Int) (s a t bt ut : ByteArray) (b1 b2 : Int) (u : List Int) (u2 : Int) (w : World) (hT : Own.ipW w) (hs : s.size ≤ 5000) (hp8 : p.length = 8) (hu8 : u.length = 8) (ha : ip_Print4.f k n = some a) (hx : ip_Parse4.f k a = some (n, 0)) (ht : ip_Print6.g k p = some t) (hq : ip_Parse6.g k t = some (p, 0)) (he : ip_Ends.f k a = some true) (hb : ip_Parse4.f k s = some (0, b2)) (hbt : ip_Print4.f k 0 = some bt) (hc : ip_Parse4.f k bt = some (0, 0)) (hu6 : ip_Parse6.g k s = some (zero8, u2)) (hut : ip_Print6.g k zero8 = some ut) (hv : ip_Parse6.g k ut = some (zero8, 0)) (hb2 : b2 ≠ 0) (hu2 : u2 ≠ 0) :
    Calls Tryd.prog 8 #[.int .u32 n, .agg (arrV p), .string s] w fun e w' => e = .returned (.bool true) ∧ Below w.heap.size w w' := by
  have HT := Aside0.mk hT
  have hu := Tryd.underlying23
  have hi0 : (Tryd.prog.info? 23).map (·.size) = some (arrV zero8).size := by kernel_rfl
  have T0 := Aside0.mk trivial
  obtain ⟨w0, hw0⟩ : ∃ w0, w0 = w.alloc (.cells (arrV p) 23) := ⟨_, rfl⟩
  have HB0 : Aside0 (Below w.heap.size w w0) := ⟨by rw [hw0]; exact below_alloc (Below.refl _ _) _⟩
  have HRp_0 : Aside0 (w0.heap[w.heap.size]? = some (.cells (arrV p) 23 (0, 0))) := ⟨by rw [hw0]; exact blk_new _ _⟩
  have hu2' := Tryd.underlying22
  have hip : Aside0 ((Tryd.prog.info? 23).map (·.size) = some (arrV p).size) := ⟨by rw [arr_size, hp8]; kernel_rfl⟩
  have hsp : Aside0 ((arrV zero8).size = (arrV p).size) := ⟨by rw [arr_size, arr_size, hp8]; rfl⟩
  have hiu : Aside0 ((Tryd.prog.info? 23).map (·.size) = some (arrV zero8).size) := ⟨hi0⟩
  have heqp := fun w' => arr_eq (P := Tryd.prog) (t := 23) (e := 22) (n := 8) Tryd.underlying23 Tryd.underlying22 (fun _ => by kernel_rfl) (fun _ => by kernel_rfl) 9998 p p hp8 hp8 w'
  rw [decide_eq_true (rfl : p = p)] at heqp
  have hequ := fun w' => arr_eq (P := Tryd.prog) (t := 23) (e := 22) (n := 8) Tryd.underlying23 Tryd.underlying22 (fun _ => by kernel_rfl) (fun _ => by kernel_rfl) 9998 zero8 zero8 zero8_len zero8_len w'
  rw [decide_eq_true (rfl : zero8 = zero8)] at hequ
  have heq0 : ∀ w', (Op.equalIn (9998 + 2) 23 (.agg (arrV zero8)) (.agg #[Value.int IntKind.u16 0, Value.int IntKind.u16 0, Value.int IntKind.u16 0, Value.int IntKind.u16 0, Value.int IntKind.u16 0, Value.int IntKind.u16 0, Value.int IntKind.u16 0, Value.int IntKind.u16 0])).run Tryd.prog w' = .ok true w' := hequ
  have HP8 := Aside0.mk hp8
  have HU8 := Aside0.mk hu8
  clear hp8 hu8
  have q0 : decide ((5000 : Int) < (s.size : Int)) = false := decide_eq_false (by omega)
  have eb : (b2 == 0) = false := beq_eq_false_iff_ne.2 hb2
  have eu : (u2 == 0) = false := beq_eq_false_iff_ne.2 hu2
  go_enter Tryd.func8, Tryd.ntmps8
  go_wp2_with (first | (clear T0; go_at_call 9; rw [← hw0]; clear hw0; (with_reducible refine (sprlaw7_first.calls 0 true _ rfl (Own.ipW_below HT.out HB0.out)).mono ?_); rintro e w1 ⟨rfl, hb⟩; have HB1 := Aside0.mk (HB0.out.trans (hb.mono HB0.out.size)); have HRp_1 := Aside0.mk (blk_below HRp_0.out hb); clear hb HB0 HRp_0; have T1 := Aside0.mk trivial) | (clear T1; go_at_call 18; (with_reducible refine (ip_Print4.calls k n a _ ha (Own.ipW_below HT.out HB1.out)).mono ?_); rintro e w2 ⟨rfl, hb⟩; have HB2 := Aside0.mk (HB1.out.trans (hb.mono HB1.out.size)); have HRp_2 := Aside0.mk (blk_below HRp_1.out hb); clear hb HB1 HRp_1; have T2 := Aside0.mk trivial) | (clear T2; go_at_call 13; (with_reducible refine (ip_Parse4.calls k a n 0 _ hx).mono ?_); rintro e w3 ⟨rfl, hb⟩; have HB3 := Aside0.mk (HB2.out.trans (hb.mono HB2.out.size)); have HRp_3 := Aside0.mk (blk_below HRp_2.out hb); clear hb HB2 HRp_2; have T3 := Aside0.mk trivial) | ((with_reducible refine gate_dst (N := 32) rfl ?_); refine gate_guard (by rfl) ?_; refine wpList_load_row rfl 23 (.tmp 4) rfl w.heap.size rfl 23 (arrV p) (0, 0) _ HRp_3.out hu rfl hip.out ?_) | (clear T3; go_at_call 10; (with_reducible refine (ip_Print6.gcalls k p t _ ht (Own.ipW_below HT.out HB3.out)).mono ?_); rintro e w4 ⟨rfl, hb⟩; have HB4 := Aside0.mk (HB3.out.trans (hb.mono HB3.out.size)); have HRp_4 := Aside0.mk (blk_below HRp_3.out hb); clear hb HB3 HRp_3; have T4 := Aside0.mk trivial) | (clear T4; go_at_call 12; (with_reducible refine (ip_Parse6.gcalls k t p 0 _ hq (Own.ipW_below HT.out HB4.out)).mono ?_); rintro e w5 ⟨rfl, hb⟩; have HB5 := Aside0.mk (HB4.out.trans (hb.mono HB4.out.size)); have HRp_5 := Aside0.mk (blk_below HRp_4.out hb); clear hb HB4 HRp_4; have T5 := Aside0.mk trivial) | (clear T5; (with_reducible refine gate_store (t := 23) (p := 9) rfl ?_); refine wpList_store_row rfl 23 (.tmp 9) (.tmp 35) rfl w5.heap.size (arrV p) rfl rfl 23 (arrV zero8) (blk_new _ _) hip.out hsp.out (arr_one _) ?_; rw [show (w5.alloc (.cells #[Value.int IntKind.u16 0, Value.int IntKind.u16 0, Value.int IntKind.u16 0, Value.int IntKind.u16 0, Value.int IntKind.u16 0, Value.int IntKind.u16 0, Value.int IntKind.u16 0, Value.int IntKind.u16 0] 23)).setRow w5.heap.size (arrV p) = w5.alloc (.cells (arrV p) 23) from Own.alloc_setRow _ _ _ _]; obtain ⟨w6, hw⟩ : ∃ v, v = w5.alloc (.cells (arrV p) 23) := ⟨_, rfl⟩; rw [← hw]; have HB6 := Aside0.mk (hw ▸ below_alloc HB5.out _ : Below w.heap.size w w6); have HRp_6 := Aside0.mk (hw ▸ blk_alloc HRp_5.out _ : w6.heap[w.heap.size]? = some (.cells (arrV p) 23 (0, 0))); have HRq_6 := Aside0.mk (hw ▸ blk_new w5 _ : w6.heap[w5.heap.size]? = some (.cells (arrV p) 23 (0, 0))); clear hw HB5 HRp_5; have T6 := Aside0.mk trivial) | ((with_reducible refine gate_dst (N := 49) rfl ?_); refine gate_guard (by rfl) ?_; refine wpList_load_row rfl 23 (.tmp 9) rfl w5.heap.size rfl 23 (arrV p) (0, 0) _ HRq_6.out hu rfl hip.out ?_) | ((with_reducible refine gate_dst (N := 50) rfl ?_); refine gate_guard (by rfl) ?_; refine wpList_load_row rfl 23 (.tmp 4) rfl w.heap.size rfl 23 (arrV p) (0, 0) _ HRp_6.out hu rfl hip.out ?_) | (clear T6; go_at_call 18; (with_reducible refine (ip_Print4.calls k n a _ ha (Own.ipW_below HT.out HB6.out)).mono ?_); rintro e w7 ⟨rfl, hb⟩; have HB7 := Aside0.mk (HB6.out.trans (hb.mono HB6.out.size)); have HRp_7 := Aside0.mk (blk_below HRp_6.out hb); have HRq_7 := Aside0.mk (blk_below HRq_6.out hb); clear hb HB6 HRp_6 HRq_6; have T7 := Aside0.mk trivial) | (clear T7; go_at_call 16; (with_reducible refine (ip_Ends.calls k a true _ he).mono ?_); rintro e w8 ⟨rfl, hb⟩; have HB8 := Aside0.mk (HB7.out.trans (hb.mono HB7.out.size)); have HRp_8 := Aside0.mk (blk_below HRp_7.out hb); have HRq_8 := Aside0.mk (blk_below HRq_7.out hb); clear hb HB7 HRp_7 HRq_7; have T8 := Aside0.mk trivial) | (clear T8; go_at_call 13; (with_reducible refine (ip_Parse4.calls k s 0 b2 _ hb).mono ?_); rintro e w9 ⟨rfl, hb⟩; have HB9 := Aside0.mk (HB8.out.trans (hb.mono HB8.out.size)); have HRp_9 := Aside0.mk (blk_below HRp_8.out hb); have HRq_9 := Aside0.mk (blk_below HRq_8.out hb); clear hb HB8 HRp_8 HRq_8; have T9 := Aside0.mk trivial) | (clear T9; go_at_call 18; (with_reducible refine (ip_Print4.calls k 0 bt _ hbt (Own.ipW_below HT.out HB9.out)).mono ?_); rintro e w10 ⟨rfl, hb⟩; have HB10 := Aside0.mk (HB9.out.trans (hb.mono HB9.out.size)); have HRp_10 := Aside0.mk (blk_below HRp_9.out hb); have HRq_10 := Aside0.mk (blk_below HRq_9.out hb); clear hb HB9 HRp_9 HRq_9; have T10 := Aside0.mk trivial) | (clear T10; go_at_call 13; (with_reducible refine (ip_Parse4.calls k bt 0 0 _ hc).mono ?_); rintro e w11 ⟨rfl, hb⟩; have HB11 := Aside0.mk (HB10.out.trans (hb.mono HB10.out.size)); have HRp_11 := Aside0.mk (blk_below HRp_10.out hb); have HRq_11 := Aside0.mk (blk_below HRq_10.out hb); clear hb HB10 HRp_10 HRq_10; have T11 := Aside0.mk trivial) | (clear T11; go_at_call 12; (with_reducible refine (ip_Parse6.gcalls k s zero8 u2 _ hu6 (Own.ipW_below HT.out HB11.out)).mono ?_); rintro e w12 ⟨rfl, hb⟩; have HB12 := Aside0.mk (HB11.out.trans (hb.mono HB11.out.size)); have HRp_12 := Aside0.mk (blk_below HRp_11.out hb); have HRq_12 := Aside0.mk (blk_below HRq_11.out hb); clear hb HB11 HRp_11 HRq_11; have T12 := Aside0.mk trivial) | (clear T12; (with_reducible refine gate_store (t := 23) (p := 15) rfl ?_); refine wpList_store_row rfl 23 (.tmp 15) (.tmp 73) rfl w12.heap.size (arrV zero8) rfl rfl 23 (arrV zero8) (blk_new _ _) hi0 rfl (arr_one _) ?_; rw [show (w12.alloc (.cells #[Value.int IntKind.u16 0, Value.int IntKind.u16 0, Value.int IntKind.u16 0, Value.int IntKind.u16 0, Value.int IntKind.u16 0, Value.int IntKind.u16 0, Value.int IntKind.u16 0, Value.int IntKind.u16 0] 23)).setRow w12.heap.size (arrV zero8) = w12.alloc (.cells (arrV zero8) 23) from Own.alloc_setRow _ _ _ _]; obtain ⟨w13, hw⟩ : ∃ v, v = w12.alloc (.cells (arrV zero8) 23) := ⟨_, rfl⟩; rw [← hw]; have HB13 := Aside0.mk (hw ▸ below_alloc HB12.out _ : Below w.heap.size w w13); have HRp_13 := Aside0.mk (hw ▸ blk_alloc HRp_12.out _ : w13.heap[w.heap.size]? = some (.cells (arrV p) 23 (0, 0))); have HRq_13 := Aside0.mk (hw ▸ blk_alloc HRq_12.out _ : w13.heap[w5.heap.size]? = some (.cells (arrV p) 23 (0, 0))); have HRu_13 := Aside0.mk (hw ▸ blk_new w12 _ : w13.heap[w12.heap.size]? = some (.cells (arrV zero8) 23 (0, 0))); clear hw HB12 HRp_12 HRq_12; have T13 := Aside0.mk trivial) | ((with_reducible refine gate_dst (N := 76) rfl ?_); refine gate_guard (by rfl) ?_; refine wpList_load_row rfl 23 (.tmp 15) rfl w12.heap.size rfl 23 (arrV zero8) (0, 0) _ HRu_13.out hu rfl hiu.out ?_) | (clear T13; go_at_call 10; (with_reducible refine (ip_Print6.gcalls k zero8 ut _ hut (Own.ipW_below HT.out HB13.out)).mono ?_); rintro e w14 ⟨rfl, hb⟩; have HB14 := Aside0.mk (HB13.out.trans (hb.mono HB13.out.size)); have HRp_14 := Aside0.mk (blk_below HRp_13.out hb); have HRq_14 := Aside0.mk (blk_below HRq_13.out hb); have HRu_14 := Aside0.mk (blk_below HRu_13.out hb); clear hb HB13 HRp_13 HRq_13 HRu_13; have T14 := Aside0.mk trivial) | (clear T14; go_at_call 12; (with_reducible refine (ip_Parse6.gcalls k ut zero8 0 _ hv (Own.ipW_below HT.out HB14.out)).mono ?_); rintro e w15 ⟨rfl, hb⟩; have HB15 := Aside0.mk (HB14.out.trans (hb.mono HB14.out.size)); have HRp_15 := Aside0.mk (blk_below HRp_14.out hb); have HRq_15 := Aside0.mk (blk_below HRq_14.out hb); have HRu_15 := Aside0.mk (blk_below HRu_14.out hb); clear hb HB14 HRp_14 HRq_14 HRu_14; have T15 := Aside0.mk trivial) | (clear T15; (with_reducible refine gate_store (t := 23) (p := 17) rfl ?_); refine wpList_store_row rfl 23 (.tmp 17) (.tmp 79) rfl w15.heap.size (arrV zero8) rfl rfl 23 (arrV zero8) (blk_new _ _) hi0 rfl (arr_one _) ?_; rw [show (w15.alloc (.cells #[Value.int IntKind.u16 0, Value.int IntKind.u16 0, Value.int IntKind.u16 0, Value.int IntKind.u16 0, Value.int IntKind.u16 0, Value.int IntKind.u16 0, Value.int IntKind.u16 0, Value.int IntKind.u16 0] 23)).setRow w15.heap.size (arrV zero8) = w15.alloc (.cells (arrV zero8) 23) from Own.alloc_setRow _ _ _ _]; obtain ⟨w16, hw⟩ : ∃ v, v = w15.alloc (.cells (arrV zero8) 23) := ⟨_, rfl⟩; rw [← hw]; have HB16 := Aside0.mk (hw ▸ below_alloc HB15.out _ : Below w.heap.size w w16); have HRp_16 := Aside0.mk (hw ▸ blk_alloc HRp_15.out _ : w16.heap[w.heap.size]? = some (.cells (arrV p) 23 (0, 0))); have HRq_16 := Aside0.mk (hw ▸ blk_alloc HRq_15.out _ : w16.heap[w5.heap.size]? = some (.cells (arrV p) 23 (0, 0))); have HRu_16 := Aside0.mk (hw ▸ blk_alloc HRu_15.out _ : w16.heap[w12.heap.size]? = some (.cells (arrV zero8) 23 (0, 0))); have HRv_16 := Aside0.mk (hw ▸ blk_new w15 _ : w16.heap[w15.heap.size]? = some (.cells (arrV zero8) 23 (0, 0))); clear hw HB15 HRp_15 HRq_15 HRu_15; have T16 := Aside0.mk trivial) | (clear T16; go_at_call 9; (with_reducible refine (sprlaw7_first.calls 0 true _ rfl (Own.ipW_below HT.out HB16.out)).mono ?_); rintro e w17 ⟨rfl, hb⟩; have HB17 := Aside0.mk (HB16.out.trans (hb.mono HB16.out.size)); have HRp_17 := Aside0.mk (blk_below HRp_16.out hb); have HRq_17 := Aside0.mk (blk_below HRq_16.out hb); have HRu_17 := Aside0.mk (blk_below HRu_16.out hb); have HRv_17 := Aside0.mk (blk_below HRv_16.out hb); clear hb HB16 HRp_16 HRq_16 HRu_16 HRv_16; have T17 := Aside0.mk trivial) | ((with_reducible refine gate_dst (N := 103) rfl ?_); refine gate_guard (by rfl) ?_; refine wpList_load_row rfl 23 (.tmp 15) rfl w12.heap.size rfl 23 (arrV zero8) (0, 0) _ HRu_17.out hu rfl hiu.out ?_) | ((with_reducible refine gate_dst (N := 113) rfl ?_); refine gate_guard (by rfl) ?_; refine wpList_load_row rfl 23 (.tmp 17) rfl w15.heap.size rfl 23 (arrV zero8) (0, 0) _ HRv_17.out hu rfl hiu.out ?_) | ((with_reducible refine gate_dst (N := 114) rfl ?_); refine gate_guard (by rfl) ?_; refine wpList_load_row rfl 23 (.tmp 15) rfl w12.heap.size rfl 23 (arrV zero8) (0, 0) _ HRu_17.out hu rfl hiu.out ?_))
  go_ret
  exact ⟨rfl, HB17.out⟩
def sprlaw7_IpBack.f (k : Nat) (n : Int) (p : List Int) (s : ByteArray) : Option Bool :=
  if s.size ≤ 5000 then ((ip_Print4.f k n).bind fun a => (ip_Parse4.f k a).bind fun x => (ip_Print6.g k p).bind fun t => (ip_Parse6.g k t).bind fun q => (ip_Ends.f k a).bind fun en => (ip_Parse4.f k s).bind fun b => (ip_Print4.f k b.1).bind fun bt => (ip_Parse4.f k bt).bind fun c => (ip_Parse6.g k s).bind fun u => (ip_Print6.g k u.1).bind fun ut => (ip_Parse6.g k ut).bind fun v =>
    if p.length = 8 ∧ u.1.length = 8 ∧ x = (n, 0) ∧ q = (p, 0) ∧ en = true ∧ (b.2 = 0 ∨ b.1 = 0) ∧ c = (b.1, 0) ∧ (u.2 = 0 ∨ u.1 = zero8) ∧ v = (u.1, 0) then some true else none) else some true
theorem sprlaw7_IpBack.mono (n : Int) (p : List Int) (s : ByteArray) (k : Nat) : LeO (sprlaw7_IpBack.f k n p s) (sprlaw7_IpBack.f (k + 1) n p s) := by
  unfold sprlaw7_IpBack.f
  exact LeO.ite (LeO.bind (ip_Print4.mono _ k) fun _ => LeO.bind (ip_Parse4.mono _ k) fun _ => LeO.bind (ip_Print6.gmono _ k) fun _ => LeO.bind (ip_Parse6.gmono _ k) fun _ => LeO.bind (ip_Ends.mono _ k) fun _ => LeO.bind (ip_Parse4.mono _ k) fun _ => LeO.bind (ip_Print4.mono _ k) fun _ => LeO.bind (ip_Parse4.mono _ k) fun _ => LeO.bind (ip_Parse6.gmono _ k) fun _ => LeO.bind (ip_Print6.gmono _ k) fun _ => LeO.bind (ip_Parse6.gmono _ k) fun _ => LeO.refl _) (LeO.refl _)
theorem sprlaw7_IpBack.calls (k : Nat) (n : Int) (p : List Int) (s : ByteArray) (r : Bool) (w : World) (h : sprlaw7_IpBack.f k n p s = some r) (hT : Aside0 (r = true)) (hT0 : Own.ipW w) :
    Calls Tryd.prog 8 #[.int .u32 n, .agg (arrV p), .string s] w fun e w' => e = .returned (.bool r) ∧ Below w.heap.size w w' := by
  unfold sprlaw7_IpBack.f at h
  split at h
  · rename_i hs
    obtain ⟨a, ha, h1⟩ := Option.bind_eq_some_iff.1 h
    obtain ⟨x, hx, h2⟩ := Option.bind_eq_some_iff.1 h1
    obtain ⟨t, ht, h3⟩ := Option.bind_eq_some_iff.1 h2
    obtain ⟨q, hq, h4⟩ := Option.bind_eq_some_iff.1 h3
    obtain ⟨en, he, h5⟩ := Option.bind_eq_some_iff.1 h4
    obtain ⟨⟨b1, b2⟩, hb, h6⟩ := Option.bind_eq_some_iff.1 h5
    obtain ⟨bt, hbt, h7⟩ := Option.bind_eq_some_iff.1 h6
    obtain ⟨c, hc, h8⟩ := Option.bind_eq_some_iff.1 h7
    obtain ⟨⟨u, u2⟩, hu, h9⟩ := Option.bind_eq_some_iff.1 h8
    obtain ⟨ut, hut, h10⟩ := Option.bind_eq_some_iff.1 h9
    obtain ⟨v, hv, h11⟩ := Option.bind_eq_some_iff.1 h10
    dsimp only at hbt hut h11
    split at h11
    · rename_i hcond
      obtain ⟨hp8, hu8, rfl, rfl, rfl, hbb, rfl, huu, rfl⟩ := hcond
      obtain rfl := Option.some.inj h11
      by_cases hb2 : b2 = 0
      · subst hb2
        by_cases hu2 : u2 = 0
        · subst hu2
          exact sprlaw7_IpBack.w00 k n p s a t bt ut b1 0 u 0 w hT0 hs hp8 hu8 ha hx ht hq he hb hbt hc hu hut hv
        · obtain rfl : u = zero8 := huu.resolve_left hu2
          exact sprlaw7_IpBack.w01 k n p s a t bt ut b1 0 zero8 u2 w hT0 hs hp8 hu8 ha hx ht hq he hb hbt hc hu hut hv hu2
      · obtain rfl : b1 = 0 := hbb.resolve_left hb2
        by_cases hu2 : u2 = 0
        · subst hu2
          exact sprlaw7_IpBack.w10 k n p s a t bt ut 0 b2 u 0 w hT0 hs hp8 hu8 ha hx ht hq he hb hbt hc hu hut hv hb2
        · obtain rfl : u = zero8 := huu.resolve_left hu2
          exact sprlaw7_IpBack.w11 k n p s a t bt ut 0 b2 zero8 u2 w hT0 hs hp8 hu8 ha hx ht hq he hb hbt hc hu hut hv hb2 hu2
    · cases h11
  · rename_i hs
    obtain rfl := Option.some.inj h
    exact sprlaw7_IpBack.long n p s w hT0 hs


end Go.Proofs.YtldkhokpedfhdaaDoor.K
