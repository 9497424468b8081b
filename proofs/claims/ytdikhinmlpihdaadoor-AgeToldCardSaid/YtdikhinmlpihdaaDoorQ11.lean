-- Written by a program of this session's (wip/xprint.py), out of the seat's translation.
import Derived.Test.YtdikhinmlpihdaaDoorQ0
import Derived.Test.YtdikhinmlpihdaaDoorQ1
import Derived.Test.YtdikhinmlpihdaaDoorQ7
import Derived.Test.YtdikhinmlpihdaaDoorQ8
import Derived.Test.YtdikhinmlpihdaaDoorQ9
import Derived.Test.YtdikhinmlpihdaaDoorQ10
namespace Go.Proofs.YtdikhinmlpihdaaDoor.Q
open Go.RowKit Go.Proofs.YtdikhinmlpihdaaDoorW.PrintWords Go.Proofs.YtdikhinmlpihdaaDoorW.PrintLast Go.Proofs.YtdikhinmlpihdaaDoorW.PrintMore
attribute [local go_sem] max2_int min2_int max_two min_two max_three min_three max_four min_four   -- for this text's walks alone
set_option linter.unusedVariables false
set_option linter.unusedSimpArgs false

/-! ### sprlaw19_first: function 6 -/
def sprlaw19_first.f (k : Nat)  : Option (Bool) := (age_Age.f k ([] : List (S32)) 0 0 7).bind fun t331 => (if t331 = 7 then ((age_Life.f k false 200 ([] : List (S32)) 0).bind fun t332 => (if t332 = 0 then ((age_Age.f k (([(⟨(⟨#[65, 103, 101]⟩ : ByteArray), (⟨#[120]⟩ : ByteArray)⟩ : S32)] : List (S32))) 0 0 0).bind fun t336 => (some (t336 == 2147483648))) else (some false))) else (some false))
theorem sprlaw19_first.mono : ∀ k, LeO (sprlaw19_first.f k ) (sprlaw19_first.f (k + 1) ) := by
  intro  k
  unfold sprlaw19_first.f
  repeat' first
      | (with_reducible exact age_Age.mono _ _ _ _ _)
      | (with_reducible exact age_Life.mono _ _ _ _ _)
      | (with_reducible exact LeO.refl _)
      | (with_reducible exact LeO.none _)
      | (with_reducible refine LeO.ite ?_ ?_)
      | (with_reducible refine LeO.bind ?_ (fun _ => ?_))
      | exact age_Age.mono _ _ _ _ _
      | exact age_Life.mono _ _ _ _ _
      | exact LeO.none _
      | refine LeO.ite ?_ ?_
      | refine LeO.bind ?_ (fun _ => ?_)
set_option maxHeartbeats 2000000 in
set_option maxRecDepth 100000 in
theorem sprlaw19_first.calls (k : Nat)  (r : Bool) (w : World) (h : sprlaw19_first.f k  = some r) :
    Calls Tryd.prog 6 #[] w fun e w' => e = .returned (.bool r) ∧ Below w.heap.size w w' := by
  have hu32 := Tryd.underlying32
  have HB := Aside0.mk (Below.refl w.heap.size w)
  have H : ((age_Age.f k ([] : List (S32)) 0 0 7).bind fun t331 => (if t331 = 7 then ((age_Life.f k false 200 ([] : List (S32)) 0).bind fun t332 => (if t332 = 0 then ((age_Age.f k (([(⟨(⟨#[65, 103, 101]⟩ : ByteArray), (⟨#[120]⟩ : ByteArray)⟩ : S32)] : List (S32))) 0 0 0).bind fun t336 => (some (t336 == 2147483648))) else (some false))) else (some false))) = some r := h
  clear h
  replace H := Option.bind_eq_some_iff.mp H
  obtain ⟨t331, A10, H⟩ := H
  replace H : (if t331 = 7 then ((age_Life.f k false 200 ([] : List (S32)) 0).bind fun t332 => (if t332 = 0 then ((age_Age.f k (([(⟨(⟨#[65, 103, 101]⟩ : ByteArray), (⟨#[120]⟩ : ByteArray)⟩ : S32)] : List (S32))) 0 0 0).bind fun t336 => (some (t336 == 2147483648))) else (some false))) else (some false)) = some r := H
  have A1 := Aside0.mk A10
  clear A10
  by_cases c2 : t331 = 7
  · rw [if_pos c2] at H
    have c2b0 : (t331 == 7) = true := beq_iff_eq.mpr c2
    have c2b1 : (t331 != 7) = false := bne_eq_false_iff_eq.mpr c2
    clear c2
    replace H := Option.bind_eq_some_iff.mp H
    obtain ⟨t332, A30, H⟩ := H
    replace H : (if t332 = 0 then ((age_Age.f k (([(⟨(⟨#[65, 103, 101]⟩ : ByteArray), (⟨#[120]⟩ : ByteArray)⟩ : S32)] : List (S32))) 0 0 0).bind fun t336 => (some (t336 == 2147483648))) else (some false)) = some r := H
    have A3 := Aside0.mk A30
    clear A30
    by_cases c4 : t332 = 0
    · rw [if_pos c4] at H
      have c4b0 : (t332 == 0) = true := beq_iff_eq.mpr c4
      have c4b1 : (t332 != 0) = false := bne_eq_false_iff_eq.mpr c4
      clear c4
      obtain ⟨y333, hy333⟩ : ∃ y_ : List (S32), y_ = (([(⟨(⟨#[65, 103, 101]⟩ : ByteArray), (⟨#[120]⟩ : ByteArray)⟩ : S32)] : List (S32))) := ⟨_, rfl⟩
      replace H : ((age_Age.f k y333 0 0 0).bind fun t336 => (some (t336 == 2147483648))) = some r := by first | (rw [hy333]; with_reducible exact H) | (have H2_ := (Option.bind_some _ _).symm.trans H; rw [hy333]; with_reducible exact H2_) | (have H2_ := (Option.bind_some _ _).symm.trans H; with_reducible exact H2_) | with_reducible exact H | (rw [hy333]; exact H) | exact H
      have Ny333 := Aside0.mk hy333
      clear hy333
      replace H := Option.bind_eq_some_iff.mp H
      obtain ⟨t336, A50, H⟩ := H
      replace H : (some (t336 == 2147483648)) = some r := H
      have A5 := Aside0.mk A50
      clear A50
      obtain rfl := Option.some.inj H
      go_enter Tryd.func6, Tryd.ntmps6
      go_wp2_with (first | ((with_reducible refine gate_callee (f := 8) rfl ?_); refine goesL_ (some 1) rfl rfl Tryd.func8 (by kernel_rfl) rfl #[.slice none 0 0, .int .i64 0, .int .i64 0, .int .i64 7] rfl (by (try simp only [List.map_toArray, List.map_cons, List.map_nil]); first | done | rfl | (simp only [List.length_drop, List.length_take]; rfl)) ?_; (refine (age_Age.calls k _ _ ([] : List (S32)) 0 0 7 t331 _ ?side1 ?side2 A1.out).mono ?_); (case side1 => exact Kd.C_nil _ _); (case side2 => exact Nat.le_refl _); rintro e w6 ⟨rfl, hb⟩; refine ⟨_, rfl, ?_⟩; have n0_ := Aside0.mk (below_step (by repeat (first | (with_reducible first | exact HB.out | apply below_alloc | apply pw_below_drewN | apply below_drew1) | exact HB.out)) hb); clear HB; have HB := n0_; clear n0_; (try clear hb); (try clear hb2); (try clear hk); (try clear hi)) | (go_at_call 9; (refine (age_Life.calls k false 200 _ _ ([] : List (S32)) 0 t332 _ ?side1 ?side2 A3.out).mono ?_); (case side1 => exact Kd.C_nil _ _); (case side2 => exact Nat.le_refl _); rintro e w7 ⟨rfl, hb⟩; have n0_ := Aside0.mk (below_step (by repeat (first | (with_reducible first | exact HB.out | apply below_alloc | apply pw_below_drewN | apply below_drew1) | exact HB.out)) hb); clear HB; have HB := n0_; clear n0_; (try clear hb); (try clear hb2); (try clear hk); (try clear hi)) | ((with_reducible refine gate_dst (N := 9) rfl ?_); (try (refine gate_guard (by rfl) ?_; dsimp only)); refine Kd.R_lit k32 _ 32 ?hg (N := 9) ?hd (xs := ([(⟨(⟨#[65, 103, 101]⟩ : ByteArray), (⟨#[120]⟩ : ByteArray)⟩ : S32)] : List (S32))) (inner := [.string (⟨#[65, 103, 101]⟩ : ByteArray), .string (⟨#[120]⟩ : ByteArray)]) (ok := fun _ => True) (okp := fun _ => True) ?hr ?hp (fun _ hk => hk) trivial (Below.refl _ _) (Nat.le_refl _) (by simp) ?_; (case hd => rfl); (case hg => rfl); (case hr => first | (go_simp; done) | (go_simp; rfl)); (case hp => exact (Reps.c2 (show Kd.M k32 _ _ _ (⟨(⟨#[65, 103, 101]⟩ : ByteArray), (⟨#[120]⟩ : ByteArray)⟩ : S32) [.string (⟨#[65, 103, 101]⟩ : ByteArray), .string (⟨#[120]⟩ : ByteArray)] from (k32_mkM _ _ _ (⟨(⟨#[65, 103, 101]⟩ : ByteArray), (⟨#[120]⟩ : ByteArray)⟩ : S32) )) (Reps.none _ _))); intro v334 w8 ho9 hb hg_ hnew_; clear hg_ hnew_; (first | rw [← Ny333.out] at ho9 | (simp only [Int.reduceToNat] at ho9; rw [← Ny333.out] at ho9)); have n0_ := Aside0.mk (Kd.R_lower ho9 (below_size (by repeat (first | (with_reducible first | exact HB.out | apply below_alloc | apply pw_below_drewN | apply below_drew1) | exact HB.out)))); have n1_ := Aside0.mk (below_step (by repeat (first | (with_reducible first | exact HB.out | apply below_alloc | apply pw_below_drewN | apply below_drew1) | exact HB.out)) hb); clear HB; have HO335 := n0_; have HB := n1_; clear n0_ n1_; clear hb ho9; obtain ⟨Ao10, co10, eo10⟩ := Kd.R_slice HO335.out; subst eo10) | (go_at_call 8; (with_reducible refine (age_Age.calls k _ _ y333 0 0 0 t336 _ ?side1 ?side2 A5.out).mono ?_); (case side1 => repeat (first | exact (Kd.R_reads' HO335.out).2.2 | (with_reducible refine Kd.C_alloc ?_ _) | (with_reducible refine Kd.C_drewN ?_ _) | (with_reducible refine Kd.C_drew ?_))); (case side2 => exact (Kd.R_reads' HO335.out).2.1); rintro e w11 ⟨rfl, hb⟩; have n0_ := Aside0.mk (Kd.R_below (by (with_reducible repeat (first | apply Kd.R_alloc | apply Kd.R_drewN | apply Kd.R_drew)); exact HO335.out) hb); have n1_ := Aside0.mk (below_step (by repeat (first | (with_reducible first | exact HB.out | apply below_alloc | apply pw_below_drewN | apply below_drew1) | exact HB.out)) hb); clear HO335; clear HB; have HO335 := n0_; have HB := n1_; clear n0_ n1_; (try clear hb); (try clear hb2); (try clear hk); (try clear hi)))
      go_ret
      exact ⟨by first | rfl | (simp [errW_none, errW_some] <;> rfl) | (simp [*, errW_none, errW_some] <;> rfl), by repeat (first | (with_reducible first | exact HB.out | apply below_alloc | apply pw_below_drewN | apply below_drew1) | exact HB.out)⟩
    · rw [if_neg c4] at H
      have c4b0 : (t332 == 0) = false := beq_eq_false_iff_ne.mpr c4
      have c4b1 : (t332 != 0) = true := bne_iff_ne.mpr c4
      obtain rfl := Option.some.inj H
      go_enter Tryd.func6, Tryd.ntmps6
      go_wp2_with (first | ((with_reducible refine gate_callee (f := 8) rfl ?_); refine goesL_ (some 1) rfl rfl Tryd.func8 (by kernel_rfl) rfl #[.slice none 0 0, .int .i64 0, .int .i64 0, .int .i64 7] rfl (by (try simp only [List.map_toArray, List.map_cons, List.map_nil]); first | done | rfl | (simp only [List.length_drop, List.length_take]; rfl)) ?_; (refine (age_Age.calls k _ _ ([] : List (S32)) 0 0 7 t331 _ ?side1 ?side2 A1.out).mono ?_); (case side1 => exact Kd.C_nil _ _); (case side2 => exact Nat.le_refl _); rintro e w12 ⟨rfl, hb⟩; refine ⟨_, rfl, ?_⟩; have n0_ := Aside0.mk (below_step (by repeat (first | (with_reducible first | exact HB.out | apply below_alloc | apply pw_below_drewN | apply below_drew1) | exact HB.out)) hb); clear HB; have HB := n0_; clear n0_; (try clear hb); (try clear hb2); (try clear hk); (try clear hi)) | (go_at_call 9; (refine (age_Life.calls k false 200 _ _ ([] : List (S32)) 0 t332 _ ?side1 ?side2 A3.out).mono ?_); (case side1 => exact Kd.C_nil _ _); (case side2 => exact Nat.le_refl _); rintro e w13 ⟨rfl, hb⟩; have n0_ := Aside0.mk (below_step (by repeat (first | (with_reducible first | exact HB.out | apply below_alloc | apply pw_below_drewN | apply below_drew1) | exact HB.out)) hb); clear HB; have HB := n0_; clear n0_; (try clear hb); (try clear hb2); (try clear hk); (try clear hi)))
      go_ret
      exact ⟨by first | rfl | (simp [errW_none, errW_some] <;> rfl) | (simp [*, errW_none, errW_some] <;> rfl), by repeat (first | (with_reducible first | exact HB.out | apply below_alloc | apply pw_below_drewN | apply below_drew1) | exact HB.out)⟩
  · rw [if_neg c2] at H
    have c2b0 : (t331 == 7) = false := beq_eq_false_iff_ne.mpr c2
    have c2b1 : (t331 != 7) = true := bne_iff_ne.mpr c2
    obtain rfl := Option.some.inj H
    go_enter Tryd.func6, Tryd.ntmps6
    go_wp2_with (first | ((with_reducible refine gate_callee (f := 8) rfl ?_); refine goesL_ (some 1) rfl rfl Tryd.func8 (by kernel_rfl) rfl #[.slice none 0 0, .int .i64 0, .int .i64 0, .int .i64 7] rfl (by (try simp only [List.map_toArray, List.map_cons, List.map_nil]); first | done | rfl | (simp only [List.length_drop, List.length_take]; rfl)) ?_; (refine (age_Age.calls k _ _ ([] : List (S32)) 0 0 7 t331 _ ?side1 ?side2 A1.out).mono ?_); (case side1 => exact Kd.C_nil _ _); (case side2 => exact Nat.le_refl _); rintro e w14 ⟨rfl, hb⟩; refine ⟨_, rfl, ?_⟩; have n0_ := Aside0.mk (below_step (by repeat (first | (with_reducible first | exact HB.out | apply below_alloc | apply pw_below_drewN | apply below_drew1) | exact HB.out)) hb); clear HB; have HB := n0_; clear n0_; (try clear hb); (try clear hb2); (try clear hk); (try clear hi)))
    go_ret
    exact ⟨by first | rfl | (simp [errW_none, errW_some] <;> rfl) | (simp [*, errW_none, errW_some] <;> rfl), by repeat (first | (with_reducible first | exact HB.out | apply below_alloc | apply pw_below_drewN | apply below_drew1) | exact HB.out)⟩

/-! ### sprlaw13_Few: function 7 -/
def sprlaw13_Few.l0 : Nat → List (S32) → Int → Int → Option (Bool)
  | 0, _, _, _ => none
  | k + 1, x0, x3, x4 => if x4 < (x0.length : Int) then (if x4 < 80 then (if 0 ≤ x4 then (sprlaw13_Few.l0 k x0 (mn (wrap64 ((wrap64 (x3 + (mn (((rd_T32 x0 x4).f0).size : Int) 20000))) + (mn (((rd_T32 x0 x4).f1).size : Int) 20000))) 80000) (wrap64 (x4 + 1))) else (none)) else (if (x0.length : Int) ≤ 80 then (some (decide (x3 ≤ 20000))) else (some false))) else (if (x0.length : Int) ≤ 80 then (some (decide (x3 ≤ 20000))) else (some false))
def sprlaw13_Few.f (k : Nat) (l0 : List (S32)) : Option (Bool) := sprlaw13_Few.l0 k l0 0 0
theorem sprlaw13_Few.mono_l : ∀ k, (∀ y0 y1 y2, LeO (sprlaw13_Few.l0 k y0 y1 y2) (sprlaw13_Few.l0 (k + 1) y0 y1 y2))
  | 0 => fun _ _ _ r h => by simp [sprlaw13_Few.l0] at h
  | k + 1 => by
    have ih0 := sprlaw13_Few.mono_l k
    · intro y0 y1 y2
      unfold sprlaw13_Few.l0
      repeat' first
      | (with_reducible exact ih0 _ _ _)
      | (with_reducible exact LeO.refl _)
      | (with_reducible exact LeO.none _)
      | (with_reducible refine LeO.ite ?_ ?_)
      | (with_reducible refine LeO.bind ?_ (fun _ => ?_))
      | exact ih0 _ _ _
      | exact LeO.none _
      | refine LeO.ite ?_ ?_
      | refine LeO.bind ?_ (fun _ => ?_)
theorem sprlaw13_Few.mono : ∀ a0 k, LeO (sprlaw13_Few.f k a0) (sprlaw13_Few.f (k + 1) a0) := by
  intro a0 k
  have ih0 := sprlaw13_Few.mono_l k
  unfold sprlaw13_Few.f
  repeat' first
      | (with_reducible exact ih0 _ _ _)
      | (with_reducible exact LeO.refl _)
      | (with_reducible exact LeO.none _)
      | (with_reducible refine LeO.ite ?_ ?_)
      | (with_reducible refine LeO.bind ?_ (fun _ => ?_))
      | exact ih0 _ _ _
      | exact LeO.none _
      | refine LeO.ite ?_ ?_
      | refine LeO.bind ?_ (fun _ => ?_)
set_option maxHeartbeats 2000000 in
set_option maxRecDepth 100000 in
theorem sprlaw13_Few.calls (k : Nat) (A0 : Option Addr) (c0 : Nat) (l0 : List (S32)) (r : Bool) (w : World) (hr0 : Kd.C k32 w A0 l0.length l0) (hc0 : l0.length ≤ c0) (h : sprlaw13_Few.f k l0 = some r) :
    Calls Tryd.prog 7 #[.slice A0 l0.length c0] w fun e w' => e = .returned (.bool r) ∧ Below w.heap.size w w' := by
  have HR0 := Aside0.mk hr0
  have HC0 := Aside0.mk hc0
  clear hr0 hc0
  have HB := Aside0.mk (Below.refl w.heap.size w)
  have H : (sprlaw13_Few.l0 k l0 0 0) = some r := h
  clear h
  have H' := Aside0.mk H
  clear H
  go_enter Tryd.func7, Tryd.ntmps7
  go_wp2
  repeat (go_quiet (fail); try go_wp2)
  go_loopg [3, 4] k (fun kq v3 v4 w' => ∃ (x3_1 : Int) (x4_1 : Int), v3 = .int .i64 x3_1 ∧ v4 = .int .i64 x4_1 ∧ Aside0 (sprlaw13_Few.l0 kq l0 x3_1 x4_1 = some r) ∧ Aside0 (kq ≤ k) ∧ Aside0 (Below w.heap.size w w'))
  case atStart => exact ⟨(0), (0), (by first | rfl | (simp; done) | (simp [*]; done)), (by first | rfl | (simp; done) | (simp [*]; done)), H', ⟨Nat.le_refl _⟩, ⟨by repeat (first | (with_reducible first | exact HB.out | apply below_alloc | apply pw_below_drewN | apply below_drew1) | exact HB.out)⟩⟩
  case round =>
    clear H'
    obtain ⟨x3_1, x4_1, rfl, rfl, HA, HK1, HB⟩ := hrel
    cases gk with
    | zero => exact absurd HA.out (by simp [sprlaw13_Few.l0])
    | succ k1 =>
      have H := HA.out
      clear HA
      simp only [sprlaw13_Few.l0] at H
      by_cases c2 : x4_1 < (l0.length : Int)
      · rw [if_pos c2] at H
        have c2b0 : decide (x4_1 < (l0.length : Int)) = true := decide_eq_true c2
        clear c2
        by_cases c3 : x4_1 < 80
        · rw [if_pos c3] at H
          have c3b0 : decide (x4_1 < 80) = true := decide_eq_true c3
          clear c3
          by_cases c4 : 0 ≤ x4_1
          · rw [if_pos c4] at H
            have c4b0 : decide (0 ≤ x4_1) = true := decide_eq_true c4
            clear c4
            obtain ⟨ji5, hji5⟩ : ∃ j_ : Int, (mn (((rd_T32 l0 x4_1).f0).size : Int) 20000) = j_ := ⟨_, rfl⟩
            replace H : (sprlaw13_Few.l0 k1 l0 (mn (wrap64 ((wrap64 (x3_1 + (ji5))) + (mn (((rd_T32 l0 x4_1).f1).size : Int) 20000))) 80000) (wrap64 (x4_1 + 1))) = some r := by first | (rw [hji5] at H; exact H) | (simp only [hji5] at H ⊢; exact H)
            have hji5_ : (if 20000 < (((rd_T32 l0 x4_1).f0).size : Int) then 20000 else (((rd_T32 l0 x4_1).f0).size : Int)) = ji5 := hji5
            obtain ⟨ji6, hji6⟩ : ∃ j_ : Int, (mn (((rd_T32 l0 x4_1).f1).size : Int) 20000) = j_ := ⟨_, rfl⟩
            replace H : (sprlaw13_Few.l0 k1 l0 (mn (wrap64 ((wrap64 (x3_1 + (ji5))) + (ji6))) 80000) (wrap64 (x4_1 + 1))) = some r := by first | (rw [hji6] at H; exact H) | (simp only [hji6] at H ⊢; exact H)
            have hji6_ : (if 20000 < (((rd_T32 l0 x4_1).f1).size : Int) then 20000 else (((rd_T32 l0 x4_1).f1).size : Int)) = ji6 := hji6
            obtain ⟨ji7, hji7⟩ : ∃ j_ : Int, (mn (wrap64 ((wrap64 (x3_1 + (ji5))) + (ji6))) 80000) = j_ := ⟨_, rfl⟩
            replace H : (sprlaw13_Few.l0 k1 l0 ji7 (wrap64 (x4_1 + 1))) = some r := by first | (rw [hji7] at H; exact H) | (simp only [hji7] at H ⊢; exact H)
            have hji7_ : (if 80000 < (wrap64 ((wrap64 (x3_1 + (ji5))) + (ji6))) then 80000 else (wrap64 ((wrap64 (x3_1 + (ji5))) + (ji6)))) = ji7 := hji7
            have H' := Aside0.mk H
            clear H
            have p337 : 0 ≤ (x4_1 : Int) := of_decide_eq_true (by first | (with_reducible assumption) | assumption)
            have q337 : x4_1 < (l0.length : Int) := of_decide_eq_true (by first | (with_reducible assumption) | assumption)
            obtain ⟨ad337, e337, hx337_0, hx337_1⟩ := at_T32 HR0.out x4_1 p337 q337
            cases e337
            replace hx337_0 := (HB.out.cell (World.block_lt_of_cell? w _ hx337_0)).trans hx337_0
            replace hx337_1 := (HB.out.cell (World.block_lt_of_cell? w _ hx337_1)).trans hx337_1
            replace p337 := eq_true p337
            replace q337 := eq_true q337
            have p338 : 0 ≤ (x4_1 : Int) := of_decide_eq_true (by first | (with_reducible assumption) | assumption)
            have q338 : x4_1 < (l0.length : Int) := of_decide_eq_true (by first | (with_reducible assumption) | assumption)
            obtain ⟨ad338, e338, hx338_0, hx338_1⟩ := at_T32 HR0.out x4_1 p338 q338
            obtain rfl : ad337 = ad338 := (by injection e338)
            replace hx338_0 := (HB.out.cell (World.block_lt_of_cell? w _ hx338_0)).trans hx338_0
            replace hx338_1 := (HB.out.cell (World.block_lt_of_cell? w _ hx338_1)).trans hx338_1
            replace p338 := eq_true p338
            replace q338 := eq_true q338
            go_wp2
            repeat (go_quiet (fail); try go_wp2)
            go_roundg k1
            case measure => have := HK1.out; omega
            case rel => exact ⟨(ji7), (wrap64 (x4_1 + 1)), (by first | rfl | (simp; done) | (simp only [← hji7] <;> (first | rfl | simp)) | (simp [*]; done)), (by first | rfl | (simp; done) | (simp [*]; done)), H', ⟨by have := HK1.out; omega⟩, ⟨by repeat (first | (with_reducible first | exact HB.out | apply below_alloc | apply pw_below_drewN | apply below_drew1) | exact HB.out)⟩⟩
          · rw [if_neg c4] at H
            exact absurd H (by simp)
        · rw [if_neg c3] at H
          have c3b0 : decide (x4_1 < 80) = false := decide_eq_false c3
          clear c3
          by_cases c8 : (l0.length : Int) ≤ 80
          · rw [if_pos c8] at H
            have c8b0 : decide ((l0.length : Int) ≤ 80) = true := decide_eq_true c8
            have c8b1 : decide (l0.length ≤ 80) = true := decide_eq_true (by omega)
            clear c8
            obtain rfl := Option.some.inj H
            go_wp2
            repeat (go_quiet (fail); try go_wp2)
            go_ret
            exact ⟨by first | rfl | (simp [errW_none, errW_some] <;> rfl) | (simp [*, errW_none, errW_some] <;> rfl), by repeat (first | (with_reducible first | exact HB.out | apply below_alloc | apply pw_below_drewN | apply below_drew1) | exact HB.out)⟩
          · rw [if_neg c8] at H
            have c8b0 : decide ((l0.length : Int) ≤ 80) = false := decide_eq_false c8
            have c8b1 : decide (l0.length ≤ 80) = false := decide_eq_false (by omega)
            clear c8
            obtain rfl := Option.some.inj H
            go_wp2
            repeat (go_quiet (fail); try go_wp2)
            go_ret
            exact ⟨by first | rfl | (simp [errW_none, errW_some] <;> rfl) | (simp [*, errW_none, errW_some] <;> rfl), by repeat (first | (with_reducible first | exact HB.out | apply below_alloc | apply pw_below_drewN | apply below_drew1) | exact HB.out)⟩
      · rw [if_neg c2] at H
        have c2b0 : decide (x4_1 < (l0.length : Int)) = false := decide_eq_false c2
        clear c2
        by_cases c9 : (l0.length : Int) ≤ 80
        · rw [if_pos c9] at H
          have c9b0 : decide ((l0.length : Int) ≤ 80) = true := decide_eq_true c9
          have c9b1 : decide (l0.length ≤ 80) = true := decide_eq_true (by omega)
          clear c9
          obtain rfl := Option.some.inj H
          go_wp2
          repeat (go_quiet (fail); try go_wp2)
          go_ret
          exact ⟨by first | rfl | (simp [errW_none, errW_some] <;> rfl) | (simp [*, errW_none, errW_some] <;> rfl), by repeat (first | (with_reducible first | exact HB.out | apply below_alloc | apply pw_below_drewN | apply below_drew1) | exact HB.out)⟩
        · rw [if_neg c9] at H
          have c9b0 : decide ((l0.length : Int) ≤ 80) = false := decide_eq_false c9
          have c9b1 : decide (l0.length ≤ 80) = false := decide_eq_false (by omega)
          clear c9
          obtain rfl := Option.some.inj H
          go_wp2
          repeat (go_quiet (fail); try go_wp2)
          go_ret
          exact ⟨by first | rfl | (simp [errW_none, errW_some] <;> rfl) | (simp [*, errW_none, errW_some] <;> rfl), by repeat (first | (with_reducible first | exact HB.out | apply below_alloc | apply pw_below_drewN | apply below_drew1) | exact HB.out)⟩

/-! ### sprlaw19_AgeRises: function 3 -/
def sprlaw19_AgeRises.j0 : Nat → Bool → Int → List (S32) → Int → Int → Int → Int → Bool → Option (Bool)
  | 0, _, _, _, _, _, _, _, _ => none
  | k + 1, x0, x1, x2, x3, x4, x5, x6, x47 => if x47 = true then ((sprlaw19_first.f k).bind fun t341 => (some t341)) else ((age_Age.f k x2 x3 x4 x5).bind fun t342 => ((age_Age.f k x2 x3 x4 (wrap64 (x5 + x6))).bind fun t343 => ((age_Age.f k x2 (wrap64 (Int.tdiv x3 2)) x4 x5).bind fun t344 => ((age_Life.f k x0 x1 x2 x4).bind fun t345 => ((sprlaw19_first.f k).bind fun t346 => (if t346 = true then (if t342 ≥ 0 then (if t343 ≥ t342 then (if t343 ≤ 2147483648 then (if t344 ≥ t342 then ((bits_Add.f t342 x6).bind fun t347 => (if t343 ≤ t347 then (if t345 ≥ 0 then (if t345 ≤ 2147483648 then ((age_Date.f k x2 x4).bind fun t348 => (if t348 ≥ 0 then ((age_Date.f k x2 x4).bind fun t349 => (some (decide (t349 ≤ 2147483648)))) else (some false))) else (some false)) else (some false)) else (some false))) else (some false)) else (some false)) else (some false)) else (some false)) else (some false)))))))
def sprlaw19_AgeRises.f (k : Nat) (a0 : Bool) (a1 : Int) (l2 : List (S32)) (a3 : Int) (a4 : Int) (a5 : Int) (a6 : Int) : Option (Bool) := (sprlaw19_first.f k).bind fun t339 => (if t339 = true then ((sprlaw13_Few.f k l2).bind fun t340 => (if t340 = true then (if a5 < 0 then (sprlaw19_AgeRises.j0 k a0 a1 l2 a3 a4 a5 a6 true) else (if a5 > 1099511627776 then (sprlaw19_AgeRises.j0 k a0 a1 l2 a3 a4 a5 a6 true) else (if a6 < 0 then (sprlaw19_AgeRises.j0 k a0 a1 l2 a3 a4 a5 a6 true) else (if a6 > 1099511627776 then (sprlaw19_AgeRises.j0 k a0 a1 l2 a3 a4 a5 a6 true) else (if a3 < 0 then (sprlaw19_AgeRises.j0 k a0 a1 l2 a3 a4 a5 a6 true) else (sprlaw19_AgeRises.j0 k a0 a1 l2 a3 a4 a5 a6 (decide (a3 > 1099511627776)))))))) else (sprlaw19_AgeRises.j0 k a0 a1 l2 a3 a4 a5 a6 true))) else (some false))
theorem sprlaw19_AgeRises.mono_l : ∀ k, (∀ y0 y1 y2 y3 y4 y5 y6 y7, LeO (sprlaw19_AgeRises.j0 k y0 y1 y2 y3 y4 y5 y6 y7) (sprlaw19_AgeRises.j0 (k + 1) y0 y1 y2 y3 y4 y5 y6 y7))
  | 0 => fun _ _ _ _ _ _ _ _ r h => by simp [sprlaw19_AgeRises.j0] at h
  | k + 1 => by
    have ih0 := sprlaw19_AgeRises.mono_l k
    · intro y0 y1 y2 y3 y4 y5 y6 y7
      unfold sprlaw19_AgeRises.j0
      repeat' first
      | (with_reducible exact ih0 _ _ _ _ _ _ _ _)
      | (with_reducible exact age_Age.mono _ _ _ _ _)
      | (with_reducible exact age_Date.mono _ _ _)
      | (with_reducible exact age_Life.mono _ _ _ _ _)
      | (with_reducible exact sprlaw13_Few.mono _ _)
      | (with_reducible exact sprlaw19_first.mono _)
      | (with_reducible exact LeO.refl _)
      | (with_reducible exact LeO.none _)
      | (with_reducible refine LeO.ite ?_ ?_)
      | (with_reducible refine LeO.bind ?_ (fun _ => ?_))
      | exact ih0 _ _ _ _ _ _ _ _
      | exact age_Age.mono _ _ _ _ _
      | exact age_Date.mono _ _ _
      | exact age_Life.mono _ _ _ _ _
      | exact sprlaw13_Few.mono _ _
      | exact sprlaw19_first.mono _
      | exact LeO.none _
      | refine LeO.ite ?_ ?_
      | refine LeO.bind ?_ (fun _ => ?_)
theorem sprlaw19_AgeRises.mono : ∀ a0 a1 a2 a3 a4 a5 a6 k, LeO (sprlaw19_AgeRises.f k a0 a1 a2 a3 a4 a5 a6) (sprlaw19_AgeRises.f (k + 1) a0 a1 a2 a3 a4 a5 a6) := by
  intro a0 a1 a2 a3 a4 a5 a6 k
  have ih0 := sprlaw19_AgeRises.mono_l k
  unfold sprlaw19_AgeRises.f
  repeat' first
      | (with_reducible exact ih0 _ _ _ _ _ _ _ _)
      | (with_reducible exact age_Age.mono _ _ _ _ _)
      | (with_reducible exact age_Date.mono _ _ _)
      | (with_reducible exact age_Life.mono _ _ _ _ _)
      | (with_reducible exact sprlaw13_Few.mono _ _)
      | (with_reducible exact sprlaw19_first.mono _)
      | (with_reducible exact LeO.refl _)
      | (with_reducible exact LeO.none _)
      | (with_reducible refine LeO.ite ?_ ?_)
      | (with_reducible refine LeO.bind ?_ (fun _ => ?_))
      | exact ih0 _ _ _ _ _ _ _ _
      | exact age_Age.mono _ _ _ _ _
      | exact age_Date.mono _ _ _
      | exact age_Life.mono _ _ _ _ _
      | exact sprlaw13_Few.mono _ _
      | exact sprlaw19_first.mono _
      | exact LeO.none _
      | refine LeO.ite ?_ ?_
      | refine LeO.bind ?_ (fun _ => ?_)
set_option maxHeartbeats 2000000 in
set_option maxRecDepth 100000 in
theorem sprlaw19_AgeRises.calls (k : Nat) (a0 : Bool) (a1 : Int) (A2 : Option Addr) (c2 : Nat) (l2 : List (S32)) (a3 : Int) (a4 : Int) (a5 : Int) (a6 : Int) (r : Bool) (w : World) (hr2 : Kd.C k32 w A2 l2.length l2) (hc2 : l2.length ≤ c2) (h : sprlaw19_AgeRises.f k a0 a1 l2 a3 a4 a5 a6 = some r) (hT : Aside0 (r = true)) :
    Calls Tryd.prog 3 #[.bool a0, .int .i64 a1, .slice A2 l2.length c2, .int .i64 a3, .int .i64 a4, .int .i64 a5, .int .i64 a6] w fun e w' => e = .returned (.bool r) ∧ Below w.heap.size w w' := by
  have HR2 := Aside0.mk hr2
  have HC2 := Aside0.mk hc2
  clear hr2 hc2
  have HB := Aside0.mk (Below.refl w.heap.size w)
  have H : ((sprlaw19_first.f k).bind fun t339 => (if t339 = true then ((sprlaw13_Few.f k l2).bind fun t340 => (if t340 = true then (if a5 < 0 then (sprlaw19_AgeRises.j0 k a0 a1 l2 a3 a4 a5 a6 true) else (if a5 > 1099511627776 then (sprlaw19_AgeRises.j0 k a0 a1 l2 a3 a4 a5 a6 true) else (if a6 < 0 then (sprlaw19_AgeRises.j0 k a0 a1 l2 a3 a4 a5 a6 true) else (if a6 > 1099511627776 then (sprlaw19_AgeRises.j0 k a0 a1 l2 a3 a4 a5 a6 true) else (if a3 < 0 then (sprlaw19_AgeRises.j0 k a0 a1 l2 a3 a4 a5 a6 true) else (sprlaw19_AgeRises.j0 k a0 a1 l2 a3 a4 a5 a6 (decide (a3 > 1099511627776)))))))) else (sprlaw19_AgeRises.j0 k a0 a1 l2 a3 a4 a5 a6 true))) else (some false))) = some r := h
  clear h
  replace H := Option.bind_eq_some_iff.mp H
  obtain ⟨t339, A80, H⟩ := H
  replace H : (if t339 = true then ((sprlaw13_Few.f k l2).bind fun t340 => (if t340 = true then (if a5 < 0 then (sprlaw19_AgeRises.j0 k a0 a1 l2 a3 a4 a5 a6 true) else (if a5 > 1099511627776 then (sprlaw19_AgeRises.j0 k a0 a1 l2 a3 a4 a5 a6 true) else (if a6 < 0 then (sprlaw19_AgeRises.j0 k a0 a1 l2 a3 a4 a5 a6 true) else (if a6 > 1099511627776 then (sprlaw19_AgeRises.j0 k a0 a1 l2 a3 a4 a5 a6 true) else (if a3 < 0 then (sprlaw19_AgeRises.j0 k a0 a1 l2 a3 a4 a5 a6 true) else (sprlaw19_AgeRises.j0 k a0 a1 l2 a3 a4 a5 a6 (decide (a3 > 1099511627776)))))))) else (sprlaw19_AgeRises.j0 k a0 a1 l2 a3 a4 a5 a6 true))) else (some false)) = some r := H
  have A8 := Aside0.mk A80
  clear A80
  by_cases c9 : t339 = true
  · subst c9
    have H1 : ((sprlaw13_Few.f k l2).bind fun t340 => (if t340 = true then (if a5 < 0 then (sprlaw19_AgeRises.j0 k a0 a1 l2 a3 a4 a5 a6 true) else (if a5 > 1099511627776 then (sprlaw19_AgeRises.j0 k a0 a1 l2 a3 a4 a5 a6 true) else (if a6 < 0 then (sprlaw19_AgeRises.j0 k a0 a1 l2 a3 a4 a5 a6 true) else (if a6 > 1099511627776 then (sprlaw19_AgeRises.j0 k a0 a1 l2 a3 a4 a5 a6 true) else (if a3 < 0 then (sprlaw19_AgeRises.j0 k a0 a1 l2 a3 a4 a5 a6 true) else (sprlaw19_AgeRises.j0 k a0 a1 l2 a3 a4 a5 a6 (decide (a3 > 1099511627776)))))))) else (sprlaw19_AgeRises.j0 k a0 a1 l2 a3 a4 a5 a6 true))) = some r := by rw [if_pos rfl] at H; exact H
    clear H
    have H := H1
    clear H1
    have HC10 := Aside0.mk H
    clear H
    go_enter Tryd.func3, Tryd.ntmps3
    go_upto_region 3 with (first | ((with_reducible refine gate_callee (f := 6) rfl ?_); refine goesL_ (some 19) rfl rfl Tryd.func6 (by kernel_rfl) rfl #[] rfl (by (try simp only [List.map_toArray, List.map_cons, List.map_nil]); first | done | rfl | (simp only [List.length_drop, List.length_take]; rfl)) ?_; (with_reducible refine (sprlaw19_first.calls k  true _ A8.out).mono ?_); rintro e w11 ⟨rfl, hb⟩; refine ⟨_, rfl, ?_⟩; have n0_ := Aside0.mk (below_step (by repeat (first | (with_reducible first | exact HB.out | apply below_alloc | apply pw_below_drewN | apply below_drew1) | exact HB.out)) hb); clear HB; have HB := n0_; clear n0_; (try clear hb); (try clear hb2); (try clear hk); (try clear hi)))
    (try simp only [Act.put, List.setIfInBounds_toArray, List.set_cons_zero, List.set_cons_succ])
    go_cut [47] (fun v47 wc => ∃ (kq : Nat) (x47_9 : Bool), v47 = .bool x47_9 ∧ Aside0 (sprlaw19_AgeRises.j0 kq a0 a1 l2 a3 a4 a5 a6 x47_9 = some r) ∧ Aside0 (kq ≤ k) ∧ Aside0 (Below w.heap.size w wc))
    case first =>
      have H := HC10.out
      clear HC10
      replace H := Option.bind_eq_some_iff.mp H
      obtain ⟨t340, A120, H⟩ := H
      replace H : (if t340 = true then (if a5 < 0 then (sprlaw19_AgeRises.j0 k a0 a1 l2 a3 a4 a5 a6 true) else (if a5 > 1099511627776 then (sprlaw19_AgeRises.j0 k a0 a1 l2 a3 a4 a5 a6 true) else (if a6 < 0 then (sprlaw19_AgeRises.j0 k a0 a1 l2 a3 a4 a5 a6 true) else (if a6 > 1099511627776 then (sprlaw19_AgeRises.j0 k a0 a1 l2 a3 a4 a5 a6 true) else (if a3 < 0 then (sprlaw19_AgeRises.j0 k a0 a1 l2 a3 a4 a5 a6 true) else (sprlaw19_AgeRises.j0 k a0 a1 l2 a3 a4 a5 a6 (decide (a3 > 1099511627776)))))))) else (sprlaw19_AgeRises.j0 k a0 a1 l2 a3 a4 a5 a6 true)) = some r := H
      have A12 := Aside0.mk A120
      clear A120
      by_cases c13 : t340 = true
      · subst c13
        have H1 : (if a5 < 0 then (sprlaw19_AgeRises.j0 k a0 a1 l2 a3 a4 a5 a6 true) else (if a5 > 1099511627776 then (sprlaw19_AgeRises.j0 k a0 a1 l2 a3 a4 a5 a6 true) else (if a6 < 0 then (sprlaw19_AgeRises.j0 k a0 a1 l2 a3 a4 a5 a6 true) else (if a6 > 1099511627776 then (sprlaw19_AgeRises.j0 k a0 a1 l2 a3 a4 a5 a6 true) else (if a3 < 0 then (sprlaw19_AgeRises.j0 k a0 a1 l2 a3 a4 a5 a6 true) else (sprlaw19_AgeRises.j0 k a0 a1 l2 a3 a4 a5 a6 (decide (a3 > 1099511627776)))))))) = some r := by rw [if_pos rfl] at H; exact H
        clear H
        have H := H1
        clear H1
        by_cases c14 : a5 < 0
        · rw [if_pos c14] at H
          have c14b0 : decide (a5 < 0) = true := decide_eq_true c14
          clear c14
          (first | rw [c14b0] | (simp only [i64_w, i32_w]; rw [c14b0]) | skip)
          have H' := Aside0.mk H
          clear H
          go_wp2_with (first | ((with_reducible refine gate_callee (f := 7) rfl ?_); refine goesL_ (some 22) rfl rfl Tryd.func7 (by kernel_rfl) rfl #[.slice A2 l2.length c2] rfl (by (try simp only [List.map_toArray, List.map_cons, List.map_nil]); first | done | rfl | (simp only [List.length_drop, List.length_take]; rfl)) ?_; (with_reducible refine (sprlaw13_Few.calls k _ _ l2 true _ ?side1 ?side2 A12.out).mono ?_); (case side1 => repeat (first | exact (Kd.C_below HR2.out HB.out) | (with_reducible refine Kd.C_alloc ?_ _) | (with_reducible refine Kd.C_drewN ?_ _) | (with_reducible refine Kd.C_drew ?_))); (case side2 => exact HC2.out); rintro e w15 ⟨rfl, hb⟩; refine ⟨_, rfl, ?_⟩; have n0_ := Aside0.mk (below_step (by repeat (first | (with_reducible first | exact HB.out | apply below_alloc | apply pw_below_drewN | apply below_drew1) | exact HB.out)) hb); clear HB; have HB := n0_; clear n0_; (try clear hb); (try clear hb2); (try clear hk); (try clear hi)))
          go_meet
          case rel => exact ⟨_, (true), (by first | rfl | (simp; done) | (simp [*]; done)), H', ⟨by first | omega | exact Nat.le_refl _⟩, ⟨by repeat (first | (with_reducible first | exact HB.out | apply below_alloc | apply pw_below_drewN | apply below_drew1) | exact HB.out)⟩⟩
        · rw [if_neg c14] at H
          have c14b0 : decide (a5 < 0) = false := decide_eq_false c14
          clear c14
          (first | rw [c14b0] | (simp only [i64_w, i32_w]; rw [c14b0]) | skip)
          by_cases c16 : a5 > 1099511627776
          · rw [if_pos c16] at H
            have c16b0 : decide (1099511627776 < a5) = true := decide_eq_true c16
            clear c16
            have H' := Aside0.mk H
            clear H
            go_wp2_with (first | ((with_reducible refine gate_callee (f := 7) rfl ?_); refine goesL_ (some 22) rfl rfl Tryd.func7 (by kernel_rfl) rfl #[.slice A2 l2.length c2] rfl (by (try simp only [List.map_toArray, List.map_cons, List.map_nil]); first | done | rfl | (simp only [List.length_drop, List.length_take]; rfl)) ?_; (with_reducible refine (sprlaw13_Few.calls k _ _ l2 true _ ?side1 ?side2 A12.out).mono ?_); (case side1 => repeat (first | exact (Kd.C_below HR2.out HB.out) | (with_reducible refine Kd.C_alloc ?_ _) | (with_reducible refine Kd.C_drewN ?_ _) | (with_reducible refine Kd.C_drew ?_))); (case side2 => exact HC2.out); rintro e w17 ⟨rfl, hb⟩; refine ⟨_, rfl, ?_⟩; have n0_ := Aside0.mk (below_step (by repeat (first | (with_reducible first | exact HB.out | apply below_alloc | apply pw_below_drewN | apply below_drew1) | exact HB.out)) hb); clear HB; have HB := n0_; clear n0_; (try clear hb); (try clear hb2); (try clear hk); (try clear hi)))
            go_meet
            case rel => exact ⟨_, (true), (by first | rfl | (simp; done) | (simp [*]; done)), H', ⟨by first | omega | exact Nat.le_refl _⟩, ⟨by repeat (first | (with_reducible first | exact HB.out | apply below_alloc | apply pw_below_drewN | apply below_drew1) | exact HB.out)⟩⟩
          · rw [if_neg c16] at H
            have c16b0 : decide (1099511627776 < a5) = false := decide_eq_false c16
            clear c16
            by_cases c18 : a6 < 0
            · rw [if_pos c18] at H
              have c18b0 : decide (a6 < 0) = true := decide_eq_true c18
              clear c18
              have H' := Aside0.mk H
              clear H
              go_wp2_with (first | ((with_reducible refine gate_callee (f := 7) rfl ?_); refine goesL_ (some 22) rfl rfl Tryd.func7 (by kernel_rfl) rfl #[.slice A2 l2.length c2] rfl (by (try simp only [List.map_toArray, List.map_cons, List.map_nil]); first | done | rfl | (simp only [List.length_drop, List.length_take]; rfl)) ?_; (with_reducible refine (sprlaw13_Few.calls k _ _ l2 true _ ?side1 ?side2 A12.out).mono ?_); (case side1 => repeat (first | exact (Kd.C_below HR2.out HB.out) | (with_reducible refine Kd.C_alloc ?_ _) | (with_reducible refine Kd.C_drewN ?_ _) | (with_reducible refine Kd.C_drew ?_))); (case side2 => exact HC2.out); rintro e w19 ⟨rfl, hb⟩; refine ⟨_, rfl, ?_⟩; have n0_ := Aside0.mk (below_step (by repeat (first | (with_reducible first | exact HB.out | apply below_alloc | apply pw_below_drewN | apply below_drew1) | exact HB.out)) hb); clear HB; have HB := n0_; clear n0_; (try clear hb); (try clear hb2); (try clear hk); (try clear hi)))
              go_meet
              case rel => exact ⟨_, (true), (by first | rfl | (simp; done) | (simp [*]; done)), H', ⟨by first | omega | exact Nat.le_refl _⟩, ⟨by repeat (first | (with_reducible first | exact HB.out | apply below_alloc | apply pw_below_drewN | apply below_drew1) | exact HB.out)⟩⟩
            · rw [if_neg c18] at H
              have c18b0 : decide (a6 < 0) = false := decide_eq_false c18
              clear c18
              by_cases c20 : a6 > 1099511627776
              · rw [if_pos c20] at H
                have c20b0 : decide (1099511627776 < a6) = true := decide_eq_true c20
                clear c20
                have H' := Aside0.mk H
                clear H
                go_wp2_with (first | ((with_reducible refine gate_callee (f := 7) rfl ?_); refine goesL_ (some 22) rfl rfl Tryd.func7 (by kernel_rfl) rfl #[.slice A2 l2.length c2] rfl (by (try simp only [List.map_toArray, List.map_cons, List.map_nil]); first | done | rfl | (simp only [List.length_drop, List.length_take]; rfl)) ?_; (with_reducible refine (sprlaw13_Few.calls k _ _ l2 true _ ?side1 ?side2 A12.out).mono ?_); (case side1 => repeat (first | exact (Kd.C_below HR2.out HB.out) | (with_reducible refine Kd.C_alloc ?_ _) | (with_reducible refine Kd.C_drewN ?_ _) | (with_reducible refine Kd.C_drew ?_))); (case side2 => exact HC2.out); rintro e w21 ⟨rfl, hb⟩; refine ⟨_, rfl, ?_⟩; have n0_ := Aside0.mk (below_step (by repeat (first | (with_reducible first | exact HB.out | apply below_alloc | apply pw_below_drewN | apply below_drew1) | exact HB.out)) hb); clear HB; have HB := n0_; clear n0_; (try clear hb); (try clear hb2); (try clear hk); (try clear hi)))
                go_meet
                case rel => exact ⟨_, (true), (by first | rfl | (simp; done) | (simp [*]; done)), H', ⟨by first | omega | exact Nat.le_refl _⟩, ⟨by repeat (first | (with_reducible first | exact HB.out | apply below_alloc | apply pw_below_drewN | apply below_drew1) | exact HB.out)⟩⟩
              · rw [if_neg c20] at H
                have c20b0 : decide (1099511627776 < a6) = false := decide_eq_false c20
                clear c20
                by_cases c22 : a3 < 0
                · rw [if_pos c22] at H
                  have c22b0 : decide (a3 < 0) = true := decide_eq_true c22
                  clear c22
                  have H' := Aside0.mk H
                  clear H
                  go_wp2_with (first | ((with_reducible refine gate_callee (f := 7) rfl ?_); refine goesL_ (some 22) rfl rfl Tryd.func7 (by kernel_rfl) rfl #[.slice A2 l2.length c2] rfl (by (try simp only [List.map_toArray, List.map_cons, List.map_nil]); first | done | rfl | (simp only [List.length_drop, List.length_take]; rfl)) ?_; (with_reducible refine (sprlaw13_Few.calls k _ _ l2 true _ ?side1 ?side2 A12.out).mono ?_); (case side1 => repeat (first | exact (Kd.C_below HR2.out HB.out) | (with_reducible refine Kd.C_alloc ?_ _) | (with_reducible refine Kd.C_drewN ?_ _) | (with_reducible refine Kd.C_drew ?_))); (case side2 => exact HC2.out); rintro e w23 ⟨rfl, hb⟩; refine ⟨_, rfl, ?_⟩; have n0_ := Aside0.mk (below_step (by repeat (first | (with_reducible first | exact HB.out | apply below_alloc | apply pw_below_drewN | apply below_drew1) | exact HB.out)) hb); clear HB; have HB := n0_; clear n0_; (try clear hb); (try clear hb2); (try clear hk); (try clear hi)))
                  go_meet
                  case rel => exact ⟨_, (true), (by first | rfl | (simp; done) | (simp [*]; done)), H', ⟨by first | omega | exact Nat.le_refl _⟩, ⟨by repeat (first | (with_reducible first | exact HB.out | apply below_alloc | apply pw_below_drewN | apply below_drew1) | exact HB.out)⟩⟩
                · rw [if_neg c22] at H
                  have c22b0 : decide (a3 < 0) = false := decide_eq_false c22
                  clear c22
                  have H' := Aside0.mk H
                  clear H
                  go_wp2_with (first | ((with_reducible refine gate_callee (f := 7) rfl ?_); refine goesL_ (some 22) rfl rfl Tryd.func7 (by kernel_rfl) rfl #[.slice A2 l2.length c2] rfl (by (try simp only [List.map_toArray, List.map_cons, List.map_nil]); first | done | rfl | (simp only [List.length_drop, List.length_take]; rfl)) ?_; (with_reducible refine (sprlaw13_Few.calls k _ _ l2 true _ ?side1 ?side2 A12.out).mono ?_); (case side1 => repeat (first | exact (Kd.C_below HR2.out HB.out) | (with_reducible refine Kd.C_alloc ?_ _) | (with_reducible refine Kd.C_drewN ?_ _) | (with_reducible refine Kd.C_drew ?_))); (case side2 => exact HC2.out); rintro e w24 ⟨rfl, hb⟩; refine ⟨_, rfl, ?_⟩; have n0_ := Aside0.mk (below_step (by repeat (first | (with_reducible first | exact HB.out | apply below_alloc | apply pw_below_drewN | apply below_drew1) | exact HB.out)) hb); clear HB; have HB := n0_; clear n0_; (try clear hb); (try clear hb2); (try clear hk); (try clear hi)))
                  go_meet
                  case rel => exact ⟨_, (decide (a3 > 1099511627776)), (by first | rfl | (simp; done) | (simp [*]; done)), H', ⟨by first | omega | exact Nat.le_refl _⟩, ⟨by repeat (first | (with_reducible first | exact HB.out | apply below_alloc | apply pw_below_drewN | apply below_drew1) | exact HB.out)⟩⟩
      · replace c13 := Bool.eq_false_iff.mpr c13
        subst c13
        have H1 : (sprlaw19_AgeRises.j0 k a0 a1 l2 a3 a4 a5 a6 true) = some r := by rw [if_neg (show ¬ (false = true) by decide)] at H; exact H
        clear H
        have H := H1
        clear H1
        have H' := Aside0.mk H
        clear H
        go_wp2_with (first | ((with_reducible refine gate_callee (f := 7) rfl ?_); refine goesL_ (some 22) rfl rfl Tryd.func7 (by kernel_rfl) rfl #[.slice A2 l2.length c2] rfl (by (try simp only [List.map_toArray, List.map_cons, List.map_nil]); first | done | rfl | (simp only [List.length_drop, List.length_take]; rfl)) ?_; (with_reducible refine (sprlaw13_Few.calls k _ _ l2 false _ ?side1 ?side2 A12.out).mono ?_); (case side1 => repeat (first | exact (Kd.C_below HR2.out HB.out) | (with_reducible refine Kd.C_alloc ?_ _) | (with_reducible refine Kd.C_drewN ?_ _) | (with_reducible refine Kd.C_drew ?_))); (case side2 => exact HC2.out); rintro e w25 ⟨rfl, hb⟩; refine ⟨_, rfl, ?_⟩; have n0_ := Aside0.mk (below_step (by repeat (first | (with_reducible first | exact HB.out | apply below_alloc | apply pw_below_drewN | apply below_drew1) | exact HB.out)) hb); clear HB; have HB := n0_; clear n0_; (try clear hb); (try clear hb2); (try clear hk); (try clear hi)))
        go_meet
        case rel => exact ⟨_, (true), (by first | rfl | (simp; done) | (simp [*]; done)), H', ⟨by first | omega | exact Nat.le_refl _⟩, ⟨by repeat (first | (with_reducible first | exact HB.out | apply below_alloc | apply pw_below_drewN | apply below_drew1) | exact HB.out)⟩⟩
    case rest =>
      clear HC10
      try clear c1
      try clear c2
      try clear p2
      try clear c3
      try clear c6
      try clear c7
      try clear c9
      try clear c13
      try clear c14
      try clear c14b0
      try clear c16
      try clear c16b0
      try clear c18
      try clear c18b0
      try clear c20
      try clear c20b0
      try clear c22
      try clear c22b0
      obtain ⟨kq, x47_9, rfl, HA, HJ9, HB⟩ := hcut
      cases kq with
      | zero => exact absurd HA.out (by simp [sprlaw19_AgeRises.j0])
      | succ kj9 =>
        have H := HA.out
        clear HA
        simp only [sprlaw19_AgeRises.j0] at H
        by_cases c26 : x47_9 = true
        · subst c26
          have H1 : ((sprlaw19_first.f kj9).bind fun t341 => (some t341)) = some r := by rw [if_pos rfl] at H; exact H
          clear H
          have H := H1
          clear H1
          replace H := Option.bind_eq_some_iff.mp H
          obtain ⟨t341, A270, H⟩ := H
          replace H : (some t341) = some r := H
          have A27 := Aside0.mk A270
          clear A270
          obtain rfl := Option.some.inj H
          go_wp2_with (first | ((with_reducible refine gate_callee (f := 6) rfl ?_); refine goesL_ (some 48) rfl rfl Tryd.func6 (by kernel_rfl) rfl #[] rfl (by (try simp only [List.map_toArray, List.map_cons, List.map_nil]); first | done | rfl | (simp only [List.length_drop, List.length_take]; rfl)) ?_; (with_reducible refine (sprlaw19_first.calls kj9  t341 _ A27.out).mono ?_); rintro e w28 ⟨rfl, hb⟩; refine ⟨_, rfl, ?_⟩; have n0_ := Aside0.mk (below_step (by repeat (first | (with_reducible first | exact HB.out | apply below_alloc | apply pw_below_drewN | apply below_drew1) | exact HB.out)) hb); clear HB; have HB := n0_; clear n0_; (try clear hb); (try clear hb2); (try clear hk); (try clear hi)))
          go_ret
          exact ⟨by first | rfl | (simp [errW_none, errW_some] <;> rfl) | (simp [*, errW_none, errW_some] <;> rfl), by repeat (first | (with_reducible first | exact HB.out | apply below_alloc | apply pw_below_drewN | apply below_drew1) | exact HB.out)⟩
        · replace c26 := Bool.eq_false_iff.mpr c26
          subst c26
          have H1 : ((age_Age.f kj9 l2 a3 a4 a5).bind fun t342 => ((age_Age.f kj9 l2 a3 a4 (wrap64 (a5 + a6))).bind fun t343 => ((age_Age.f kj9 l2 (wrap64 (Int.tdiv a3 2)) a4 a5).bind fun t344 => ((age_Life.f kj9 a0 a1 l2 a4).bind fun t345 => ((sprlaw19_first.f kj9).bind fun t346 => (if t346 = true then (if t342 ≥ 0 then (if t343 ≥ t342 then (if t343 ≤ 2147483648 then (if t344 ≥ t342 then ((bits_Add.f t342 a6).bind fun t347 => (if t343 ≤ t347 then (if t345 ≥ 0 then (if t345 ≤ 2147483648 then ((age_Date.f kj9 l2 a4).bind fun t348 => (if t348 ≥ 0 then ((age_Date.f kj9 l2 a4).bind fun t349 => (some (decide (t349 ≤ 2147483648)))) else (some false))) else (some false)) else (some false)) else (some false))) else (some false)) else (some false)) else (some false)) else (some false)) else (some false))))))) = some r := by rw [if_neg (show ¬ (false = true) by decide)] at H; exact H
          clear H
          have H := H1
          clear H1
          replace H := Option.bind_eq_some_iff.mp H
          obtain ⟨t342, A290, H⟩ := H
          replace H : ((age_Age.f kj9 l2 a3 a4 (wrap64 (a5 + a6))).bind fun t343 => ((age_Age.f kj9 l2 (wrap64 (Int.tdiv a3 2)) a4 a5).bind fun t344 => ((age_Life.f kj9 a0 a1 l2 a4).bind fun t345 => ((sprlaw19_first.f kj9).bind fun t346 => (if t346 = true then (if t342 ≥ 0 then (if t343 ≥ t342 then (if t343 ≤ 2147483648 then (if t344 ≥ t342 then ((bits_Add.f t342 a6).bind fun t347 => (if t343 ≤ t347 then (if t345 ≥ 0 then (if t345 ≤ 2147483648 then ((age_Date.f kj9 l2 a4).bind fun t348 => (if t348 ≥ 0 then ((age_Date.f kj9 l2 a4).bind fun t349 => (some (decide (t349 ≤ 2147483648)))) else (some false))) else (some false)) else (some false)) else (some false))) else (some false)) else (some false)) else (some false)) else (some false)) else (some false)))))) = some r := H
          have A29 := Aside0.mk A290
          clear A290
          replace H := Option.bind_eq_some_iff.mp H
          obtain ⟨t343, A300, H⟩ := H
          replace H : ((age_Age.f kj9 l2 (wrap64 (Int.tdiv a3 2)) a4 a5).bind fun t344 => ((age_Life.f kj9 a0 a1 l2 a4).bind fun t345 => ((sprlaw19_first.f kj9).bind fun t346 => (if t346 = true then (if t342 ≥ 0 then (if t343 ≥ t342 then (if t343 ≤ 2147483648 then (if t344 ≥ t342 then ((bits_Add.f t342 a6).bind fun t347 => (if t343 ≤ t347 then (if t345 ≥ 0 then (if t345 ≤ 2147483648 then ((age_Date.f kj9 l2 a4).bind fun t348 => (if t348 ≥ 0 then ((age_Date.f kj9 l2 a4).bind fun t349 => (some (decide (t349 ≤ 2147483648)))) else (some false))) else (some false)) else (some false)) else (some false))) else (some false)) else (some false)) else (some false)) else (some false)) else (some false))))) = some r := H
          have A30 := Aside0.mk A300
          clear A300
          replace H := Option.bind_eq_some_iff.mp H
          obtain ⟨t344, A310, H⟩ := H
          replace H : ((age_Life.f kj9 a0 a1 l2 a4).bind fun t345 => ((sprlaw19_first.f kj9).bind fun t346 => (if t346 = true then (if t342 ≥ 0 then (if t343 ≥ t342 then (if t343 ≤ 2147483648 then (if t344 ≥ t342 then ((bits_Add.f t342 a6).bind fun t347 => (if t343 ≤ t347 then (if t345 ≥ 0 then (if t345 ≤ 2147483648 then ((age_Date.f kj9 l2 a4).bind fun t348 => (if t348 ≥ 0 then ((age_Date.f kj9 l2 a4).bind fun t349 => (some (decide (t349 ≤ 2147483648)))) else (some false))) else (some false)) else (some false)) else (some false))) else (some false)) else (some false)) else (some false)) else (some false)) else (some false)))) = some r := H
          have A31 := Aside0.mk A310
          clear A310
          replace H := Option.bind_eq_some_iff.mp H
          obtain ⟨t345, A320, H⟩ := H
          replace H : ((sprlaw19_first.f kj9).bind fun t346 => (if t346 = true then (if t342 ≥ 0 then (if t343 ≥ t342 then (if t343 ≤ 2147483648 then (if t344 ≥ t342 then ((bits_Add.f t342 a6).bind fun t347 => (if t343 ≤ t347 then (if t345 ≥ 0 then (if t345 ≤ 2147483648 then ((age_Date.f kj9 l2 a4).bind fun t348 => (if t348 ≥ 0 then ((age_Date.f kj9 l2 a4).bind fun t349 => (some (decide (t349 ≤ 2147483648)))) else (some false))) else (some false)) else (some false)) else (some false))) else (some false)) else (some false)) else (some false)) else (some false)) else (some false))) = some r := H
          have A32 := Aside0.mk A320
          clear A320
          replace H := Option.bind_eq_some_iff.mp H
          obtain ⟨t346, A330, H⟩ := H
          replace H : (if t346 = true then (if t342 ≥ 0 then (if t343 ≥ t342 then (if t343 ≤ 2147483648 then (if t344 ≥ t342 then ((bits_Add.f t342 a6).bind fun t347 => (if t343 ≤ t347 then (if t345 ≥ 0 then (if t345 ≤ 2147483648 then ((age_Date.f kj9 l2 a4).bind fun t348 => (if t348 ≥ 0 then ((age_Date.f kj9 l2 a4).bind fun t349 => (some (decide (t349 ≤ 2147483648)))) else (some false))) else (some false)) else (some false)) else (some false))) else (some false)) else (some false)) else (some false)) else (some false)) else (some false)) = some r := H
          have A33 := Aside0.mk A330
          clear A330
          by_cases c34 : t346 = true
          · subst c34
            have H1 : (if t342 ≥ 0 then (if t343 ≥ t342 then (if t343 ≤ 2147483648 then (if t344 ≥ t342 then ((bits_Add.f t342 a6).bind fun t347 => (if t343 ≤ t347 then (if t345 ≥ 0 then (if t345 ≤ 2147483648 then ((age_Date.f kj9 l2 a4).bind fun t348 => (if t348 ≥ 0 then ((age_Date.f kj9 l2 a4).bind fun t349 => (some (decide (t349 ≤ 2147483648)))) else (some false))) else (some false)) else (some false)) else (some false))) else (some false)) else (some false)) else (some false)) else (some false)) = some r := by rw [if_pos rfl] at H; exact H
            clear H
            have H := H1
            clear H1
            by_cases c35 : t342 ≥ 0
            · rw [if_pos c35] at H
              have c35b0 : decide (0 ≤ t342) = true := decide_eq_true c35
              clear c35
              by_cases c36 : t343 ≥ t342
              · rw [if_pos c36] at H
                have c36b0 : decide (t342 ≤ t343) = true := decide_eq_true c36
                clear c36
                by_cases c37 : t343 ≤ 2147483648
                · rw [if_pos c37] at H
                  have c37b0 : decide (t343 ≤ 2147483648) = true := decide_eq_true c37
                  clear c37
                  by_cases c38 : t344 ≥ t342
                  · rw [if_pos c38] at H
                    have c38b0 : decide (t342 ≤ t344) = true := decide_eq_true c38
                    clear c38
                    replace H := Option.bind_eq_some_iff.mp H
                    obtain ⟨t347, A390, H⟩ := H
                    replace H : (if t343 ≤ t347 then (if t345 ≥ 0 then (if t345 ≤ 2147483648 then ((age_Date.f kj9 l2 a4).bind fun t348 => (if t348 ≥ 0 then ((age_Date.f kj9 l2 a4).bind fun t349 => (some (decide (t349 ≤ 2147483648)))) else (some false))) else (some false)) else (some false)) else (some false)) = some r := H
                    have A39 := Aside0.mk A390
                    clear A390
                    by_cases c40 : t343 ≤ t347
                    · rw [if_pos c40] at H
                      have c40b0 : decide (t343 ≤ t347) = true := decide_eq_true c40
                      clear c40
                      by_cases c41 : t345 ≥ 0
                      · rw [if_pos c41] at H
                        have c41b0 : decide (0 ≤ t345) = true := decide_eq_true c41
                        clear c41
                        by_cases c42 : t345 ≤ 2147483648
                        · rw [if_pos c42] at H
                          have c42b0 : decide (t345 ≤ 2147483648) = true := decide_eq_true c42
                          clear c42
                          replace H := Option.bind_eq_some_iff.mp H
                          obtain ⟨t348, A430, H⟩ := H
                          replace H : (if t348 ≥ 0 then ((age_Date.f kj9 l2 a4).bind fun t349 => (some (decide (t349 ≤ 2147483648)))) else (some false)) = some r := H
                          have A43 := Aside0.mk A430
                          clear A430
                          by_cases c44 : t348 ≥ 0
                          · rw [if_pos c44] at H
                            have c44b0 : decide (0 ≤ t348) = true := decide_eq_true c44
                            clear c44
                            replace H := Option.bind_eq_some_iff.mp H
                            obtain ⟨t349, A450, H⟩ := H
                            obtain rfl : t349 = t348 := Option.some.inj (A450.symm.trans A43.out)
                            replace H : (some (decide (t349 ≤ 2147483648))) = some r := H
                            have A45 := Aside0.mk A450
                            clear A450
                            obtain rfl := Option.some.inj H
                            go_wp2_with (first | ((with_reducible refine gate_callee (f := 8) rfl ?_); refine goesL_ (some 53) rfl rfl Tryd.func8 (by kernel_rfl) rfl #[.slice A2 l2.length c2, .int .i64 a3, .int .i64 a4, .int .i64 a5] rfl (by (try simp only [List.map_toArray, List.map_cons, List.map_nil]); first | done | rfl | (simp only [List.length_drop, List.length_take]; rfl)) ?_; (with_reducible refine (age_Age.calls kj9 _ _ l2 a3 a4 a5 t342 _ ?side1 ?side2 A29.out).mono ?_); (case side1 => repeat (first | exact (Kd.C_below HR2.out HB.out) | (with_reducible refine Kd.C_alloc ?_ _) | (with_reducible refine Kd.C_drewN ?_ _) | (with_reducible refine Kd.C_drew ?_))); (case side2 => exact HC2.out); rintro e w46 ⟨rfl, hb⟩; refine ⟨_, rfl, ?_⟩; have n0_ := Aside0.mk (below_step (by repeat (first | (with_reducible first | exact HB.out | apply below_alloc | apply pw_below_drewN | apply below_drew1) | exact HB.out)) hb); clear HB; have HB := n0_; clear n0_; (try clear hb); (try clear hb2); (try clear hk); (try clear hi)) | ((with_reducible refine gate_callee (f := 8) rfl ?_); refine goesL_ (some 60) rfl rfl Tryd.func8 (by kernel_rfl) rfl #[.slice A2 l2.length c2, .int .i64 a3, .int .i64 a4, .int .i64 (wrap64 (a5 + a6))] rfl (by (try simp only [List.map_toArray, List.map_cons, List.map_nil]); first | done | rfl | (simp only [List.length_drop, List.length_take]; rfl)) ?_; (with_reducible refine (age_Age.calls kj9 _ _ l2 a3 a4 (wrap64 (a5 + a6)) t343 _ ?side1 ?side2 A30.out).mono ?_); (case side1 => repeat (first | exact (Kd.C_below HR2.out HB.out) | (with_reducible refine Kd.C_alloc ?_ _) | (with_reducible refine Kd.C_drewN ?_ _) | (with_reducible refine Kd.C_drew ?_))); (case side2 => exact HC2.out); rintro e w47 ⟨rfl, hb⟩; refine ⟨_, rfl, ?_⟩; have n0_ := Aside0.mk (below_step (by repeat (first | (with_reducible first | exact HB.out | apply below_alloc | apply pw_below_drewN | apply below_drew1) | exact HB.out)) hb); clear HB; have HB := n0_; clear n0_; (try clear hb); (try clear hb2); (try clear hk); (try clear hi)) | ((with_reducible refine gate_callee (f := 8) rfl ?_); refine goesL_ (some 66) rfl rfl Tryd.func8 (by kernel_rfl) rfl #[.slice A2 l2.length c2, .int .i64 (wrap64 (Int.tdiv a3 2)), .int .i64 a4, .int .i64 a5] rfl (by (try simp only [List.map_toArray, List.map_cons, List.map_nil]); first | done | rfl | (simp only [List.length_drop, List.length_take]; rfl)) ?_; (with_reducible refine (age_Age.calls kj9 _ _ l2 (wrap64 (Int.tdiv a3 2)) a4 a5 t344 _ ?side1 ?side2 A31.out).mono ?_); (case side1 => repeat (first | exact (Kd.C_below HR2.out HB.out) | (with_reducible refine Kd.C_alloc ?_ _) | (with_reducible refine Kd.C_drewN ?_ _) | (with_reducible refine Kd.C_drew ?_))); (case side2 => exact HC2.out); rintro e w48 ⟨rfl, hb⟩; refine ⟨_, rfl, ?_⟩; have n0_ := Aside0.mk (below_step (by repeat (first | (with_reducible first | exact HB.out | apply below_alloc | apply pw_below_drewN | apply below_drew1) | exact HB.out)) hb); clear HB; have HB := n0_; clear n0_; (try clear hb); (try clear hb2); (try clear hk); (try clear hi)) | ((with_reducible refine gate_callee (f := 9) rfl ?_); refine goesL_ (some 71) rfl rfl Tryd.func9 (by kernel_rfl) rfl #[.bool a0, .int .i64 a1, .slice A2 l2.length c2, .int .i64 a4] rfl (by (try simp only [List.map_toArray, List.map_cons, List.map_nil]); first | done | rfl | (simp only [List.length_drop, List.length_take]; rfl)) ?_; (with_reducible refine (age_Life.calls kj9 a0 a1 _ _ l2 a4 t345 _ ?side1 ?side2 A32.out).mono ?_); (case side1 => repeat (first | exact (Kd.C_below HR2.out HB.out) | (with_reducible refine Kd.C_alloc ?_ _) | (with_reducible refine Kd.C_drewN ?_ _) | (with_reducible refine Kd.C_drew ?_))); (case side2 => exact HC2.out); rintro e w49 ⟨rfl, hb⟩; refine ⟨_, rfl, ?_⟩; have n0_ := Aside0.mk (below_step (by repeat (first | (with_reducible first | exact HB.out | apply below_alloc | apply pw_below_drewN | apply below_drew1) | exact HB.out)) hb); clear HB; have HB := n0_; clear n0_; (try clear hb); (try clear hb2); (try clear hk); (try clear hi)) | ((with_reducible refine gate_callee (f := 6) rfl ?_); refine goesL_ (some 72) rfl rfl Tryd.func6 (by kernel_rfl) rfl #[] rfl (by (try simp only [List.map_toArray, List.map_cons, List.map_nil]); first | done | rfl | (simp only [List.length_drop, List.length_take]; rfl)) ?_; (with_reducible refine (sprlaw19_first.calls kj9  true _ A33.out).mono ?_); rintro e w50 ⟨rfl, hb⟩; refine ⟨_, rfl, ?_⟩; have n0_ := Aside0.mk (below_step (by repeat (first | (with_reducible first | exact HB.out | apply below_alloc | apply pw_below_drewN | apply below_drew1) | exact HB.out)) hb); clear HB; have HB := n0_; clear n0_; (try clear hb); (try clear hb2); (try clear hk); (try clear hi)) | (go_at_call 10; (with_reducible refine (bits_Add.calls t342 a6 t347 _ A39.out).mono ?_); rintro e w51 ⟨rfl, hb⟩; have n0_ := Aside0.mk (below_step (by repeat (first | (with_reducible first | exact HB.out | apply below_alloc | apply pw_below_drewN | apply below_drew1) | exact HB.out)) hb); clear HB; have HB := n0_; clear n0_; (try clear hb); (try clear hb2); (try clear hk); (try clear hi)) | (go_at_call 11; (with_reducible refine (age_Date.calls kj9 _ _ l2 a4 t348 _ ?side1 ?side2 A43.out).mono ?_); (case side1 => repeat (first | exact (Kd.C_below HR2.out HB.out) | (with_reducible refine Kd.C_alloc ?_ _) | (with_reducible refine Kd.C_drewN ?_ _) | (with_reducible refine Kd.C_drew ?_))); (case side2 => exact HC2.out); rintro e w52 ⟨rfl, hb⟩; have n0_ := Aside0.mk (below_step (by repeat (first | (with_reducible first | exact HB.out | apply below_alloc | apply pw_below_drewN | apply below_drew1) | exact HB.out)) hb); clear HB; have HB := n0_; clear n0_; (try clear hb); (try clear hb2); (try clear hk); (try clear hi)) | (go_at_call 11; (with_reducible refine (age_Date.calls kj9 _ _ l2 a4 t349 _ ?side1 ?side2 A45.out).mono ?_); (case side1 => repeat (first | exact (Kd.C_below HR2.out HB.out) | (with_reducible refine Kd.C_alloc ?_ _) | (with_reducible refine Kd.C_drewN ?_ _) | (with_reducible refine Kd.C_drew ?_))); (case side2 => exact HC2.out); rintro e w53 ⟨rfl, hb⟩; have n0_ := Aside0.mk (below_step (by repeat (first | (with_reducible first | exact HB.out | apply below_alloc | apply pw_below_drewN | apply below_drew1) | exact HB.out)) hb); clear HB; have HB := n0_; clear n0_; (try clear hb); (try clear hb2); (try clear hk); (try clear hi)))
                            go_ret
                            exact ⟨by first | rfl | (simp [errW_none, errW_some] <;> rfl) | (simp [*, errW_none, errW_some] <;> rfl), by repeat (first | (with_reducible first | exact HB.out | apply below_alloc | apply pw_below_drewN | apply below_drew1) | exact HB.out)⟩
                          · rw [if_neg c44] at H
                            have c44b0 : decide (0 ≤ t348) = false := decide_eq_false c44
                            clear c44
                            exact absurd ((Option.some.inj H).trans hT.out) (by decide)
                        · rw [if_neg c42] at H
                          have c42b0 : decide (t345 ≤ 2147483648) = false := decide_eq_false c42
                          clear c42
                          exact absurd ((Option.some.inj H).trans hT.out) (by decide)
                      · rw [if_neg c41] at H
                        have c41b0 : decide (0 ≤ t345) = false := decide_eq_false c41
                        clear c41
                        exact absurd ((Option.some.inj H).trans hT.out) (by decide)
                    · rw [if_neg c40] at H
                      have c40b0 : decide (t343 ≤ t347) = false := decide_eq_false c40
                      clear c40
                      exact absurd ((Option.some.inj H).trans hT.out) (by decide)
                  · rw [if_neg c38] at H
                    have c38b0 : decide (t342 ≤ t344) = false := decide_eq_false c38
                    clear c38
                    exact absurd ((Option.some.inj H).trans hT.out) (by decide)
                · rw [if_neg c37] at H
                  have c37b0 : decide (t343 ≤ 2147483648) = false := decide_eq_false c37
                  clear c37
                  exact absurd ((Option.some.inj H).trans hT.out) (by decide)
              · rw [if_neg c36] at H
                have c36b0 : decide (t342 ≤ t343) = false := decide_eq_false c36
                clear c36
                exact absurd ((Option.some.inj H).trans hT.out) (by decide)
            · rw [if_neg c35] at H
              have c35b0 : decide (0 ≤ t342) = false := decide_eq_false c35
              clear c35
              exact absurd ((Option.some.inj H).trans hT.out) (by decide)
          · replace c34 := Bool.eq_false_iff.mpr c34
            subst c34
            have H1 : (some false) = some r := by rw [if_neg (show ¬ (false = true) by decide)] at H; exact H
            clear H
            have H := H1
            clear H1
            exact absurd ((Option.some.inj H).trans hT.out) (by decide)
  · replace c9 := Bool.eq_false_iff.mpr c9
    subst c9
    have H1 : (some false) = some r := by rw [if_neg (show ¬ (false = true) by decide)] at H; exact H
    clear H
    have H := H1
    clear H1
    exact absurd ((Option.some.inj H).trans hT.out) (by decide)

/-! ### sprlaw19_dec: function 12 -/
def sprlaw19_dec.l0 : Nat → Int → ByteArray → Option (ByteArray)
  | 0, _, _ => none
  | k + 1, x0, x3 => if x0 > 0 then ((some (([(wrap64 (48 + (Int.tmod x0 10))) % 256] : List Int) : List Int)).bind fun y353 => (if (strOfNums y353).size + x3.size ≤ 9223372036854775807 then (sprlaw19_dec.l0 k (wrap64 (Int.tdiv x0 10)) ((strOfNums y353) ++ x3)) else (none))) else (some x3)
def sprlaw19_dec.f (k : Nat) (a0 : Int) : Option (ByteArray) := sprlaw19_dec.l0 k (wrap64 (Int.tdiv a0 10)) (strOfNums (([(wrap64 (48 + (Int.tmod a0 10))) % 256] : List Int)))
theorem sprlaw19_dec.mono_l : ∀ k, (∀ y0 y1, LeO (sprlaw19_dec.l0 k y0 y1) (sprlaw19_dec.l0 (k + 1) y0 y1))
  | 0 => fun _ _ r h => by simp [sprlaw19_dec.l0] at h
  | k + 1 => by
    have ih0 := sprlaw19_dec.mono_l k
    · intro y0 y1
      unfold sprlaw19_dec.l0
      repeat' first
      | (with_reducible exact ih0 _ _)
      | (with_reducible exact LeO.refl _)
      | (with_reducible exact LeO.none _)
      | (with_reducible refine LeO.ite ?_ ?_)
      | (with_reducible refine LeO.bind ?_ (fun _ => ?_))
      | exact ih0 _ _
      | exact LeO.none _
      | refine LeO.ite ?_ ?_
      | refine LeO.bind ?_ (fun _ => ?_)
theorem sprlaw19_dec.mono : ∀ a0 k, LeO (sprlaw19_dec.f k a0) (sprlaw19_dec.f (k + 1) a0) := by
  intro a0 k
  have ih0 := sprlaw19_dec.mono_l k
  unfold sprlaw19_dec.f
  repeat' first
      | (with_reducible exact ih0 _ _)
      | (with_reducible exact LeO.refl _)
      | (with_reducible exact LeO.none _)
      | (with_reducible refine LeO.ite ?_ ?_)
      | (with_reducible refine LeO.bind ?_ (fun _ => ?_))
      | exact ih0 _ _
      | exact LeO.none _
      | refine LeO.ite ?_ ?_
      | refine LeO.bind ?_ (fun _ => ?_)
set_option maxHeartbeats 2000000 in
set_option maxRecDepth 100000 in
theorem sprlaw19_dec.calls (k : Nat) (a0 : Int) (r : ByteArray) (w : World) (h : sprlaw19_dec.f k a0 = some r) :
    Calls Tryd.prog 12 #[.int .i64 a0] w fun e w' => e = .returned (.string r) ∧ Below w.heap.size w w' := by
  have HB := Aside0.mk (Below.refl w.heap.size w)
  have H : (sprlaw19_dec.l0 k (wrap64 (Int.tdiv a0 10)) (strOfNums (([(wrap64 (48 + (Int.tmod a0 10))) % 256] : List Int)))) = some r := h
  clear h
  obtain ⟨y350, hy350⟩ : ∃ y_ : List Int, y_ = (([(wrap64 (48 + (Int.tmod a0 10))) % 256] : List Int)) := ⟨_, rfl⟩
  replace H : (sprlaw19_dec.l0 k (wrap64 (Int.tdiv a0 10)) (strOfNums y350)) = some r := by first | (rw [hy350]; with_reducible exact H) | (have H2_ := (Option.bind_some _ _).symm.trans H; rw [hy350]; with_reducible exact H2_) | (have H2_ := (Option.bind_some _ _).symm.trans H; with_reducible exact H2_) | with_reducible exact H | (rw [hy350]; exact H) | exact H
  have Ny350 := Aside0.mk hy350
  clear hy350
  have H' := Aside0.mk H
  clear H
  go_enter Tryd.func12, Tryd.ntmps12
  go_wp2_with (first | ((with_reducible refine gate_dst (N := 8) rfl ?_); refine Kd.R_lit (Kd.int .u8) _ 5 ?hg (N := 8) ?hd (xs := ([(wrap64 (48 + (Int.tmod a0 10))) % 256] : List Int)) (inner := [.int .u8 ((wrap64 (48 + (Int.tmod a0 10))) % 256)]) (ok := fun _ => True) (okp := fun _ => True) ?hr ?hp (fun _ hk => hk) trivial (Below.refl _ _) (Nat.le_refl _) (by simp) ?_; (case hd => rfl); (case hg => rfl); (case hr => first | (go_simp; done) | (go_simp; rfl)); (case hp => exact (Reps.one (show Kd.M (Kd.int .u8) _ _ _ ((wrap64 (48 + (Int.tmod a0 10))) % 256) [.int .u8 ((wrap64 (48 + (Int.tmod a0 10))) % 256)] from rfl) (Reps.none _ _))); intro v351 w2 ho3 hb hg_ hnew_; clear hg_ hnew_; (first | rw [← Ny350.out] at ho3 | (simp only [Int.reduceToNat] at ho3; rw [← Ny350.out] at ho3)); have n0_ := Aside0.mk (Kd.R_lower ho3 (below_size (by repeat (first | (with_reducible first | exact HB.out | apply below_alloc | apply pw_below_drewN | apply below_drew1) | exact HB.out)))); have n1_ := Aside0.mk (below_step (by repeat (first | (with_reducible first | exact HB.out | apply below_alloc | apply pw_below_drewN | apply below_drew1) | exact HB.out)) hb); clear HB; have HO352 := n0_; have HB := n1_; clear n0_ n1_; clear hb ho3; have hcv4 := own_string (P := Tryd.prog) Tryd.underlying56 Tryd.underlying5 Tryd.underlying9 (Kd.own_of_R HO352.out)))
  go_loopg [0, 3] k (fun kq v0 v3 w' => ∃ (x0_1 : Int) (x3_1 : ByteArray), v0 = .int .i64 x0_1 ∧ v3 = .string x3_1 ∧ Aside0 (sprlaw19_dec.l0 kq x0_1 x3_1 = some r) ∧ Aside0 (kq ≤ k) ∧ Aside0 (Below w.heap.size w w'))
  case atStart => exact ⟨(wrap64 (Int.tdiv a0 10)), (strOfNums y350), (by first | rfl | (simp; done) | (simp [*]; done)), (by first | rfl | (simp; done) | (simp [*]; done)), H', ⟨Nat.le_refl _⟩, ⟨by repeat (first | (with_reducible first | exact HB.out | apply below_alloc | apply pw_below_drewN | apply below_drew1) | exact HB.out)⟩⟩
  case round =>
    clear H'
    try clear c1
    try clear p2
    try clear hcv4
    obtain ⟨x0_1, x3_1, rfl, rfl, HA, HK1, HB⟩ := hrel
    cases gk with
    | zero => exact absurd HA.out (by simp [sprlaw19_dec.l0])
    | succ k1 =>
      have H := HA.out
      clear HA
      simp only [sprlaw19_dec.l0] at H
      by_cases c5 : x0_1 > 0
      · rw [if_pos c5] at H
        have c5b0 : decide (0 < x0_1) = true := decide_eq_true c5
        clear c5
        obtain ⟨y353, hy353⟩ : ∃ y_ : List Int, y_ = (([(wrap64 (48 + (Int.tmod x0_1 10))) % 256] : List Int)) := ⟨_, rfl⟩
        replace H : (if (strOfNums y353).size + x3_1.size ≤ 9223372036854775807 then (sprlaw19_dec.l0 k1 (wrap64 (Int.tdiv x0_1 10)) ((strOfNums y353) ++ x3_1)) else (none)) = some r := by first | (rw [hy353]; with_reducible exact H) | (have H2_ := (Option.bind_some _ _).symm.trans H; rw [hy353]; with_reducible exact H2_) | (have H2_ := (Option.bind_some _ _).symm.trans H; with_reducible exact H2_) | with_reducible exact H | (rw [hy353]; exact H) | exact H
        have Ny353 := Aside0.mk hy353
        clear hy353
        by_cases c6 : (strOfNums y353).size + x3_1.size ≤ 9223372036854775807
        · rw [if_pos c6] at H
          have c6b0 := eq_true c6
          have c6b1 : decide ((strOfNums y353).size + x3_1.size ≤ 9223372036854775807) = true := decide_eq_true c6
          try have c6b2 : (9223372036854775807 < (strOfNums y353).size + x3_1.size) = False := eq_false (Nat.not_lt.2 c6)
          have H' := Aside0.mk H
          clear H
          go_wp2_with (first | ((with_reducible refine gate_dst (N := 20) rfl ?_); refine Kd.R_lit (Kd.int .u8) _ 5 ?hg (N := 20) ?hd (xs := ([(wrap64 (48 + (Int.tmod x0_1 10))) % 256] : List Int)) (inner := [.int .u8 ((wrap64 (48 + (Int.tmod x0_1 10))) % 256)]) (ok := fun _ => True) (okp := fun _ => True) ?hr ?hp (fun _ hk => hk) trivial (Below.refl _ _) (Nat.le_refl _) (by simp) ?_; (case hd => rfl); (case hg => rfl); (case hr => first | (go_simp; done) | (go_simp; rfl)); (case hp => exact (Reps.one (show Kd.M (Kd.int .u8) _ _ _ ((wrap64 (48 + (Int.tmod x0_1 10))) % 256) [.int .u8 ((wrap64 (48 + (Int.tmod x0_1 10))) % 256)] from rfl) (Reps.none _ _))); intro v354 w7 ho8 hb hg_ hnew_; clear hg_ hnew_; (first | rw [← Ny353.out] at ho8 | (simp only [Int.reduceToNat] at ho8; rw [← Ny353.out] at ho8)); have n0_ := Aside0.mk (Kd.R_lower ho8 (below_size (by repeat (first | (with_reducible first | exact HB.out | apply below_alloc | apply pw_below_drewN | apply below_drew1) | exact HB.out)))); have n1_ := Aside0.mk (below_step (by repeat (first | (with_reducible first | exact HB.out | apply below_alloc | apply pw_below_drewN | apply below_drew1) | exact HB.out)) hb); clear HB; have HO355 := n0_; have HB := n1_; clear n0_ n1_; clear hb ho8; have hcv9 := own_string (P := Tryd.prog) Tryd.underlying56 Tryd.underlying5 Tryd.underlying9 (Kd.own_of_R HO355.out)))
          go_roundg k1
          case measure => have := HK1.out; omega
          case rel => exact ⟨(wrap64 (Int.tdiv x0_1 10)), ((strOfNums y353) ++ x3_1), (by first | rfl | (simp; done) | (simp [*]; done)), (by first | rfl | (simp; done) | (simp [*]; done)), H', ⟨by have := HK1.out; omega⟩, ⟨by repeat (first | (with_reducible first | exact HB.out | apply below_alloc | apply pw_below_drewN | apply below_drew1) | exact HB.out)⟩⟩
        · rw [if_neg c6] at H
          exact absurd H (by simp)
      · rw [if_neg c5] at H
        have c5b0 : decide (0 < x0_1) = false := decide_eq_false c5
        clear c5
        obtain rfl := Option.some.inj H
        go_wp2
        go_ret
        exact ⟨by first | rfl | (simp [errW_none, errW_some] <;> rfl) | (simp [*, errW_none, errW_some] <;> rfl), by repeat (first | (with_reducible first | exact HB.out | apply below_alloc | apply pw_below_drewN | apply below_drew1) | exact HB.out)⟩

/-! ### age_Explicit: function 13 -/
def age_Explicit.f (k : Nat) (a0 : Bool) (l1 : List (S32)) : Option (Bool) := (age_control.f k l1).bind fun bt356 => (if a0 = true then (if bt356.2.2.2.2.2.2.2.2.2.2.2.2.2.1 = true then (some true) else (if bt356.2.2.2.2.2.2.2.2.2.2.2.1 = true then (some true) else ((head_All.f k l1 (⟨#[69, 120, 112, 105, 114, 101, 115]⟩ : ByteArray)).bind fun t378 => (some (decide ((t378.length : Int) > 0)))))) else (if bt356.2.2.2.2.2.2.2.2.2.2.2.1 = true then (some true) else ((head_All.f k l1 (⟨#[69, 120, 112, 105, 114, 101, 115]⟩ : ByteArray)).bind fun t381 => (some (decide ((t381.length : Int) > 0))))))
theorem age_Explicit.mono : ∀ a0 a1 k, LeO (age_Explicit.f k a0 a1) (age_Explicit.f (k + 1) a0 a1) := by
  intro a0 a1 k
  unfold age_Explicit.f
  repeat' first
      | (with_reducible exact age_control.mono _ _)
      | (with_reducible exact head_All.mono _ _ _)
      | (with_reducible exact LeO.refl _)
      | (with_reducible exact LeO.none _)
      | (with_reducible refine LeO.ite ?_ ?_)
      | (with_reducible refine LeO.bind ?_ (fun _ => ?_))
      | exact age_control.mono _ _
      | exact head_All.mono _ _ _
      | exact LeO.none _
      | refine LeO.ite ?_ ?_
      | refine LeO.bind ?_ (fun _ => ?_)
set_option maxHeartbeats 2000000 in
set_option maxRecDepth 100000 in
theorem age_Explicit.calls (k : Nat) (a0 : Bool) (A1 : Option Addr) (c1 : Nat) (l1 : List (S32)) (r : Bool) (w : World) (hr1 : Kd.C k32 w A1 l1.length l1) (hc1 : l1.length ≤ c1) (h : age_Explicit.f k a0 l1 = some r) :
    Calls Tryd.prog 13 #[.bool a0, .slice A1 l1.length c1] w fun e w' => e = .returned (.bool r) ∧ Below w.heap.size w w' := by
  have hu51 := Tryd.underlying51
  have HR1 := Aside0.mk hr1
  have HC1 := Aside0.mk hc1
  clear hr1 hc1
  have HB := Aside0.mk (Below.refl w.heap.size w)
  have H : ((age_control.f k l1).bind fun bt356 => (if a0 = true then (if bt356.2.2.2.2.2.2.2.2.2.2.2.2.2.1 = true then (some true) else (if bt356.2.2.2.2.2.2.2.2.2.2.2.1 = true then (some true) else ((head_All.f k l1 (⟨#[69, 120, 112, 105, 114, 101, 115]⟩ : ByteArray)).bind fun t378 => (some (decide ((t378.length : Int) > 0)))))) else (if bt356.2.2.2.2.2.2.2.2.2.2.2.1 = true then (some true) else ((head_All.f k l1 (⟨#[69, 120, 112, 105, 114, 101, 115]⟩ : ByteArray)).bind fun t381 => (some (decide ((t381.length : Int) > 0))))))) = some r := h
  clear h
  replace H := Option.bind_eq_some_iff.mp H
  obtain ⟨⟨t356, t357, t358, t359, t360, t361, t362, t363, t364, t365, t366, t367, t368, t369, t370, t371, t372, t373, t374, t375, t376⟩, A30, H⟩ := H
  replace H : (if a0 = true then (if t369 = true then (some true) else (if t367 = true then (some true) else ((head_All.f k l1 (⟨#[69, 120, 112, 105, 114, 101, 115]⟩ : ByteArray)).bind fun t378 => (some (decide ((t378.length : Int) > 0)))))) else (if t367 = true then (some true) else ((head_All.f k l1 (⟨#[69, 120, 112, 105, 114, 101, 115]⟩ : ByteArray)).bind fun t381 => (some (decide ((t381.length : Int) > 0)))))) = some r := H
  have A3 := Aside0.mk A30
  clear A30
  by_cases c4 : a0 = true
  · subst c4
    have H1 : (if t369 = true then (some true) else (if t367 = true then (some true) else ((head_All.f k l1 (⟨#[69, 120, 112, 105, 114, 101, 115]⟩ : ByteArray)).bind fun t378 => (some (decide ((t378.length : Int) > 0)))))) = some r := by rw [if_pos rfl] at H; exact H
    clear H
    have H := H1
    clear H1
    by_cases c5 : t369 = true
    · subst c5
      have H1 : (some true) = some r := by rw [if_pos rfl] at H; exact H
      clear H
      have H := H1
      clear H1
      obtain rfl := Option.some.inj H
      go_enter Tryd.func13, Tryd.ntmps13
      go_wp2_with (first | ((with_reducible refine gate_store (t := 51) rfl ?_); refine wpList_store_row rfl 51 _ _ rfl _ #[.bool t356, .bool t357, .bool t358, .bool t359, .bool t360, .bool t361, .bool t362, .bool t363, .bool t364, .bool t365, .bool t366, .bool t367, .int .i64 t368, .bool true, .int .i64 t370, .bool t371, .int .i64 t372, .bool t373, .int .i64 t374, .bool t375, .int .i64 t376] rfl rfl 51 _ BK377.out (by kernel_rfl) rfl (by simp [Value.oneCell']) ?_; obtain ⟨wrow, hwrow⟩ : ∃ wr_, wr_ = World.setRow w7 gb377 #[.bool t356, .bool t357, .bool t358, .bool t359, .bool t360, .bool t361, .bool t362, .bool t363, .bool t364, .bool t365, .bool t366, .bool t367, .int .i64 t368, .bool true, .int .i64 t370, .bool t371, .int .i64 t372, .bool t373, .int .i64 t374, .bool t375, .int .i64 t376] := ⟨_, rfl⟩; rw [← hwrow]; have HBrow := Aside0.mk (by rw [hwrow]; exact age_control.below HB.out GW377.out _ : Below w.heap.size w wrow); have BKrow := Aside0.mk (by rw [hwrow]; exact setRow_heap _ _ _ _ _ _ BK377.out : wrow.heap[gb377]? = some (.cells #[.bool t356, .bool t357, .bool t358, .bool t359, .bool t360, .bool t361, .bool t362, .bool t363, .bool t364, .bool t365, .bool t366, .bool t367, .int .i64 t368, .bool true, .int .i64 t370, .bool t371, .int .i64 t372, .bool t373, .int .i64 t374, .bool t375, .int .i64 t376] 51 (0, 0))); clear hwrow HB BK377; have HB := HBrow; have BK377 := BKrow; clear HBrow BKrow; have hcr8_11 : wrow.cell? ⟨gb377, 11, none⟩ = some (.bool t367) := (blk_cell BK377.out 11).trans rfl; have hcr8_13 : wrow.cell? ⟨gb377, 13, none⟩ = some (.bool true) := (blk_cell BK377.out 13).trans rfl; clear hcz8_0 hcz8_1 hcz8_2 hcz8_3 hcz8_4 hcz8_5 hcz8_6 hcz8_7 hcz8_8 hcz8_9 hcz8_10 hcz8_11 hcz8_12 hcz8_13 hcz8_14 hcz8_15 hcz8_16 hcz8_17 hcz8_18 hcz8_19 hcz8_20 hfz8_0 hfz8_1 hfz8_2 hfz8_3 hfz8_4 hfz8_5 hfz8_6 hfz8_7 hfz8_8 hfz8_9 hfz8_10 hfz8_11 hfz8_12 hfz8_13 hfz8_14 hfz8_15 hfz8_16 hfz8_17 hfz8_18 hfz8_19 hfz8_20) | ((with_reducible refine gate_callee (f := 27) rfl ?_); refine goesL_ (some 7) rfl rfl Tryd.func27 (by kernel_rfl) rfl #[.slice A1 l1.length c1] rfl (by (try simp only [List.map_toArray, List.map_cons, List.map_nil]); first | done | rfl | (simp only [List.length_drop, List.length_take]; rfl)) ?_; (with_reducible refine (age_control.calls k _ _ l1 t356 t357 t358 t359 t360 t361 t362 t363 t364 t365 t366 t367 t368 true t370 t371 t372 t373 t374 t375 t376 _ ?side1 ?side2 A3.out).mono ?_); (case side1 => repeat (first | exact HR1.out | (with_reducible refine Kd.C_alloc ?_ _) | (with_reducible refine Kd.C_drewN ?_ _) | (with_reducible refine Kd.C_drew ?_))); (case side2 => exact HC1.out); rintro e w6 ⟨rfl, hb⟩; refine ⟨_, rfl, ?_⟩; have n0_ := Aside0.mk (below_step (by repeat (first | (with_reducible first | exact HB.out | apply below_alloc | apply pw_below_drewN | apply below_drew1) | exact HB.out)) hb); clear HB; have HB := n0_; clear n0_; (try clear hb); (try clear hb2); (try clear hk); (try clear hi)) | ((with_reducible refine gate_dst (N := 5) rfl ?_); (try (refine gate_guard (by rfl) ?_; dsimp only)); refine box_event ?hg (N := 5) ?hd (cs := #[.bool false, .bool false, .bool false, .bool false, .bool false, .bool false, .bool false, .bool false, .bool false, .bool false, .bool false, .bool false, .int .i64 0, .bool false, .int .i64 0, .bool false, .int .i64 0, .bool false, .int .i64 0, .bool false, .int .i64 0]) (t := 51) ?hr ?_; (case hd => rfl); (case hg => rfl); (case hr => first | (go_simp; done) | (go_simp; rfl)); intro gb377 hg w7 hbox hb; have n0_ := Aside0.mk (below_step (by repeat (first | (with_reducible first | exact HB.out | apply below_alloc | apply pw_below_drewN | apply below_drew1) | exact HB.out)) hb); have n1_ := Aside0.mk (hbox); have n2_ := Aside0.mk ((by rw [hg]; exact (below_size (by repeat (first | (with_reducible first | exact HB.out | apply below_alloc | apply pw_below_drewN | apply below_drew1) | exact HB.out))) : w.heap.size ≤ gb377)); have n3_ := Aside0.mk ((by rw [hg]; exact (below_size (by repeat (first | (with_reducible first | exact HB.out | apply below_alloc | apply pw_below_drewN | apply below_drew1) | exact HB.out))) : w.heap.size ≤ gb377)); clear HB; have HB := n0_; have BK377 := n1_; have GW377 := n2_; have GE377 := n3_; clear n0_ n1_ n2_ n3_; clear hb hbox hg; have hcz8_0 : w7.cell? ⟨gb377, 0, none⟩ = some (.bool false) := (blk_cell BK377.out 0).trans rfl; have hcz8_1 : w7.cell? ⟨gb377, 1, none⟩ = some (.bool false) := (blk_cell BK377.out 1).trans rfl; have hcz8_2 : w7.cell? ⟨gb377, 2, none⟩ = some (.bool false) := (blk_cell BK377.out 2).trans rfl; have hcz8_3 : w7.cell? ⟨gb377, 3, none⟩ = some (.bool false) := (blk_cell BK377.out 3).trans rfl; have hcz8_4 : w7.cell? ⟨gb377, 4, none⟩ = some (.bool false) := (blk_cell BK377.out 4).trans rfl; have hcz8_5 : w7.cell? ⟨gb377, 5, none⟩ = some (.bool false) := (blk_cell BK377.out 5).trans rfl; have hcz8_6 : w7.cell? ⟨gb377, 6, none⟩ = some (.bool false) := (blk_cell BK377.out 6).trans rfl; have hcz8_7 : w7.cell? ⟨gb377, 7, none⟩ = some (.bool false) := (blk_cell BK377.out 7).trans rfl; have hcz8_8 : w7.cell? ⟨gb377, 8, none⟩ = some (.bool false) := (blk_cell BK377.out 8).trans rfl; have hcz8_9 : w7.cell? ⟨gb377, 9, none⟩ = some (.bool false) := (blk_cell BK377.out 9).trans rfl; have hcz8_10 : w7.cell? ⟨gb377, 10, none⟩ = some (.bool false) := (blk_cell BK377.out 10).trans rfl; have hcz8_11 : w7.cell? ⟨gb377, 11, none⟩ = some (.bool false) := (blk_cell BK377.out 11).trans rfl; have hcz8_12 : w7.cell? ⟨gb377, 12, none⟩ = some (.int .i64 0) := (blk_cell BK377.out 12).trans rfl; have hcz8_13 : w7.cell? ⟨gb377, 13, none⟩ = some (.bool false) := (blk_cell BK377.out 13).trans rfl; have hcz8_14 : w7.cell? ⟨gb377, 14, none⟩ = some (.int .i64 0) := (blk_cell BK377.out 14).trans rfl; have hcz8_15 : w7.cell? ⟨gb377, 15, none⟩ = some (.bool false) := (blk_cell BK377.out 15).trans rfl; have hcz8_16 : w7.cell? ⟨gb377, 16, none⟩ = some (.int .i64 0) := (blk_cell BK377.out 16).trans rfl; have hcz8_17 : w7.cell? ⟨gb377, 17, none⟩ = some (.bool false) := (blk_cell BK377.out 17).trans rfl; have hcz8_18 : w7.cell? ⟨gb377, 18, none⟩ = some (.int .i64 0) := (blk_cell BK377.out 18).trans rfl; have hcz8_19 : w7.cell? ⟨gb377, 19, none⟩ = some (.bool false) := (blk_cell BK377.out 19).trans rfl; have hcz8_20 : w7.cell? ⟨gb377, 20, none⟩ = some (.int .i64 0) := (blk_cell BK377.out 20).trans rfl; have hfz8_0 := blk_frozen BK377.out 0; have hfz8_1 := blk_frozen BK377.out 1; have hfz8_2 := blk_frozen BK377.out 2; have hfz8_3 := blk_frozen BK377.out 3; have hfz8_4 := blk_frozen BK377.out 4; have hfz8_5 := blk_frozen BK377.out 5; have hfz8_6 := blk_frozen BK377.out 6; have hfz8_7 := blk_frozen BK377.out 7; have hfz8_8 := blk_frozen BK377.out 8; have hfz8_9 := blk_frozen BK377.out 9; have hfz8_10 := blk_frozen BK377.out 10; have hfz8_11 := blk_frozen BK377.out 11; have hfz8_12 := blk_frozen BK377.out 12; have hfz8_13 := blk_frozen BK377.out 13; have hfz8_14 := blk_frozen BK377.out 14; have hfz8_15 := blk_frozen BK377.out 15; have hfz8_16 := blk_frozen BK377.out 16; have hfz8_17 := blk_frozen BK377.out 17; have hfz8_18 := blk_frozen BK377.out 18; have hfz8_19 := blk_frozen BK377.out 19; have hfz8_20 := blk_frozen BK377.out 20))
      go_ret
      exact ⟨by first | rfl | (simp [errW_none, errW_some] <;> rfl) | (simp [*, errW_none, errW_some] <;> rfl), by repeat (first | (with_reducible first | exact HB.out | apply below_alloc | apply pw_below_drewN | apply below_drew1 | refine below_set ?_ GE377.out) | exact HB.out)⟩
    · replace c5 := Bool.eq_false_iff.mpr c5
      subst c5
      have H1 : (if t367 = true then (some true) else ((head_All.f k l1 (⟨#[69, 120, 112, 105, 114, 101, 115]⟩ : ByteArray)).bind fun t378 => (some (decide ((t378.length : Int) > 0))))) = some r := by rw [if_neg (show ¬ (false = true) by decide)] at H; exact H
      clear H
      have H := H1
      clear H1
      by_cases c9 : t367 = true
      · subst c9
        have H1 : (some true) = some r := by rw [if_pos rfl] at H; exact H
        clear H
        have H := H1
        clear H1
        obtain rfl := Option.some.inj H
        go_enter Tryd.func13, Tryd.ntmps13
        go_wp2_with (first | ((with_reducible refine gate_store (t := 51) rfl ?_); refine wpList_store_row rfl 51 _ _ rfl _ #[.bool t356, .bool t357, .bool t358, .bool t359, .bool t360, .bool t361, .bool t362, .bool t363, .bool t364, .bool t365, .bool t366, .bool true, .int .i64 t368, .bool false, .int .i64 t370, .bool t371, .int .i64 t372, .bool t373, .int .i64 t374, .bool t375, .int .i64 t376] rfl rfl 51 _ BK377.out (by kernel_rfl) rfl (by simp [Value.oneCell']) ?_; obtain ⟨wrow, hwrow⟩ : ∃ wr_, wr_ = World.setRow w11 gb377 #[.bool t356, .bool t357, .bool t358, .bool t359, .bool t360, .bool t361, .bool t362, .bool t363, .bool t364, .bool t365, .bool t366, .bool true, .int .i64 t368, .bool false, .int .i64 t370, .bool t371, .int .i64 t372, .bool t373, .int .i64 t374, .bool t375, .int .i64 t376] := ⟨_, rfl⟩; rw [← hwrow]; have HBrow := Aside0.mk (by rw [hwrow]; exact age_control.below HB.out GW377.out _ : Below w.heap.size w wrow); have BKrow := Aside0.mk (by rw [hwrow]; exact setRow_heap _ _ _ _ _ _ BK377.out : wrow.heap[gb377]? = some (.cells #[.bool t356, .bool t357, .bool t358, .bool t359, .bool t360, .bool t361, .bool t362, .bool t363, .bool t364, .bool t365, .bool t366, .bool true, .int .i64 t368, .bool false, .int .i64 t370, .bool t371, .int .i64 t372, .bool t373, .int .i64 t374, .bool t375, .int .i64 t376] 51 (0, 0))); clear hwrow HB BK377; have HB := HBrow; have BK377 := BKrow; clear HBrow BKrow; have hcr12_11 : wrow.cell? ⟨gb377, 11, none⟩ = some (.bool true) := (blk_cell BK377.out 11).trans rfl; have hcr12_13 : wrow.cell? ⟨gb377, 13, none⟩ = some (.bool false) := (blk_cell BK377.out 13).trans rfl; clear hcz12_0 hcz12_1 hcz12_2 hcz12_3 hcz12_4 hcz12_5 hcz12_6 hcz12_7 hcz12_8 hcz12_9 hcz12_10 hcz12_11 hcz12_12 hcz12_13 hcz12_14 hcz12_15 hcz12_16 hcz12_17 hcz12_18 hcz12_19 hcz12_20 hfz12_0 hfz12_1 hfz12_2 hfz12_3 hfz12_4 hfz12_5 hfz12_6 hfz12_7 hfz12_8 hfz12_9 hfz12_10 hfz12_11 hfz12_12 hfz12_13 hfz12_14 hfz12_15 hfz12_16 hfz12_17 hfz12_18 hfz12_19 hfz12_20) | ((with_reducible refine gate_callee (f := 27) rfl ?_); refine goesL_ (some 7) rfl rfl Tryd.func27 (by kernel_rfl) rfl #[.slice A1 l1.length c1] rfl (by (try simp only [List.map_toArray, List.map_cons, List.map_nil]); first | done | rfl | (simp only [List.length_drop, List.length_take]; rfl)) ?_; (with_reducible refine (age_control.calls k _ _ l1 t356 t357 t358 t359 t360 t361 t362 t363 t364 t365 t366 true t368 false t370 t371 t372 t373 t374 t375 t376 _ ?side1 ?side2 A3.out).mono ?_); (case side1 => repeat (first | exact HR1.out | (with_reducible refine Kd.C_alloc ?_ _) | (with_reducible refine Kd.C_drewN ?_ _) | (with_reducible refine Kd.C_drew ?_))); (case side2 => exact HC1.out); rintro e w10 ⟨rfl, hb⟩; refine ⟨_, rfl, ?_⟩; have n0_ := Aside0.mk (below_step (by repeat (first | (with_reducible first | exact HB.out | apply below_alloc | apply pw_below_drewN | apply below_drew1) | exact HB.out)) hb); clear HB; have HB := n0_; clear n0_; (try clear hb); (try clear hb2); (try clear hk); (try clear hi)) | ((with_reducible refine gate_dst (N := 5) rfl ?_); (try (refine gate_guard (by rfl) ?_; dsimp only)); refine box_event ?hg (N := 5) ?hd (cs := #[.bool false, .bool false, .bool false, .bool false, .bool false, .bool false, .bool false, .bool false, .bool false, .bool false, .bool false, .bool false, .int .i64 0, .bool false, .int .i64 0, .bool false, .int .i64 0, .bool false, .int .i64 0, .bool false, .int .i64 0]) (t := 51) ?hr ?_; (case hd => rfl); (case hg => rfl); (case hr => first | (go_simp; done) | (go_simp; rfl)); intro gb377 hg w11 hbox hb; have n0_ := Aside0.mk (below_step (by repeat (first | (with_reducible first | exact HB.out | apply below_alloc | apply pw_below_drewN | apply below_drew1) | exact HB.out)) hb); have n1_ := Aside0.mk (hbox); have n2_ := Aside0.mk ((by rw [hg]; exact (below_size (by repeat (first | (with_reducible first | exact HB.out | apply below_alloc | apply pw_below_drewN | apply below_drew1) | exact HB.out))) : w.heap.size ≤ gb377)); have n3_ := Aside0.mk ((by rw [hg]; exact (below_size (by repeat (first | (with_reducible first | exact HB.out | apply below_alloc | apply pw_below_drewN | apply below_drew1) | exact HB.out))) : w.heap.size ≤ gb377)); clear HB; have HB := n0_; have BK377 := n1_; have GW377 := n2_; have GE377 := n3_; clear n0_ n1_ n2_ n3_; clear hb hbox hg; have hcz12_0 : w11.cell? ⟨gb377, 0, none⟩ = some (.bool false) := (blk_cell BK377.out 0).trans rfl; have hcz12_1 : w11.cell? ⟨gb377, 1, none⟩ = some (.bool false) := (blk_cell BK377.out 1).trans rfl; have hcz12_2 : w11.cell? ⟨gb377, 2, none⟩ = some (.bool false) := (blk_cell BK377.out 2).trans rfl; have hcz12_3 : w11.cell? ⟨gb377, 3, none⟩ = some (.bool false) := (blk_cell BK377.out 3).trans rfl; have hcz12_4 : w11.cell? ⟨gb377, 4, none⟩ = some (.bool false) := (blk_cell BK377.out 4).trans rfl; have hcz12_5 : w11.cell? ⟨gb377, 5, none⟩ = some (.bool false) := (blk_cell BK377.out 5).trans rfl; have hcz12_6 : w11.cell? ⟨gb377, 6, none⟩ = some (.bool false) := (blk_cell BK377.out 6).trans rfl; have hcz12_7 : w11.cell? ⟨gb377, 7, none⟩ = some (.bool false) := (blk_cell BK377.out 7).trans rfl; have hcz12_8 : w11.cell? ⟨gb377, 8, none⟩ = some (.bool false) := (blk_cell BK377.out 8).trans rfl; have hcz12_9 : w11.cell? ⟨gb377, 9, none⟩ = some (.bool false) := (blk_cell BK377.out 9).trans rfl; have hcz12_10 : w11.cell? ⟨gb377, 10, none⟩ = some (.bool false) := (blk_cell BK377.out 10).trans rfl; have hcz12_11 : w11.cell? ⟨gb377, 11, none⟩ = some (.bool false) := (blk_cell BK377.out 11).trans rfl; have hcz12_12 : w11.cell? ⟨gb377, 12, none⟩ = some (.int .i64 0) := (blk_cell BK377.out 12).trans rfl; have hcz12_13 : w11.cell? ⟨gb377, 13, none⟩ = some (.bool false) := (blk_cell BK377.out 13).trans rfl; have hcz12_14 : w11.cell? ⟨gb377, 14, none⟩ = some (.int .i64 0) := (blk_cell BK377.out 14).trans rfl; have hcz12_15 : w11.cell? ⟨gb377, 15, none⟩ = some (.bool false) := (blk_cell BK377.out 15).trans rfl; have hcz12_16 : w11.cell? ⟨gb377, 16, none⟩ = some (.int .i64 0) := (blk_cell BK377.out 16).trans rfl; have hcz12_17 : w11.cell? ⟨gb377, 17, none⟩ = some (.bool false) := (blk_cell BK377.out 17).trans rfl; have hcz12_18 : w11.cell? ⟨gb377, 18, none⟩ = some (.int .i64 0) := (blk_cell BK377.out 18).trans rfl; have hcz12_19 : w11.cell? ⟨gb377, 19, none⟩ = some (.bool false) := (blk_cell BK377.out 19).trans rfl; have hcz12_20 : w11.cell? ⟨gb377, 20, none⟩ = some (.int .i64 0) := (blk_cell BK377.out 20).trans rfl; have hfz12_0 := blk_frozen BK377.out 0; have hfz12_1 := blk_frozen BK377.out 1; have hfz12_2 := blk_frozen BK377.out 2; have hfz12_3 := blk_frozen BK377.out 3; have hfz12_4 := blk_frozen BK377.out 4; have hfz12_5 := blk_frozen BK377.out 5; have hfz12_6 := blk_frozen BK377.out 6; have hfz12_7 := blk_frozen BK377.out 7; have hfz12_8 := blk_frozen BK377.out 8; have hfz12_9 := blk_frozen BK377.out 9; have hfz12_10 := blk_frozen BK377.out 10; have hfz12_11 := blk_frozen BK377.out 11; have hfz12_12 := blk_frozen BK377.out 12; have hfz12_13 := blk_frozen BK377.out 13; have hfz12_14 := blk_frozen BK377.out 14; have hfz12_15 := blk_frozen BK377.out 15; have hfz12_16 := blk_frozen BK377.out 16; have hfz12_17 := blk_frozen BK377.out 17; have hfz12_18 := blk_frozen BK377.out 18; have hfz12_19 := blk_frozen BK377.out 19; have hfz12_20 := blk_frozen BK377.out 20))
        go_ret
        exact ⟨by first | rfl | (simp [errW_none, errW_some] <;> rfl) | (simp [*, errW_none, errW_some] <;> rfl), by repeat (first | (with_reducible first | exact HB.out | apply below_alloc | apply pw_below_drewN | apply below_drew1 | refine below_set ?_ GE377.out) | exact HB.out)⟩
      · replace c9 := Bool.eq_false_iff.mpr c9
        subst c9
        have H1 : ((head_All.f k l1 (⟨#[69, 120, 112, 105, 114, 101, 115]⟩ : ByteArray)).bind fun t378 => (some (decide ((t378.length : Int) > 0)))) = some r := by rw [if_neg (show ¬ (false = true) by decide)] at H; exact H
        clear H
        have H := H1
        clear H1
        replace H := Option.bind_eq_some_iff.mp H
        obtain ⟨t378, A130, H⟩ := H
        replace H : (some (decide ((t378.length : Int) > 0))) = some r := H
        have A13 := Aside0.mk A130
        clear A130
        obtain rfl := Option.some.inj H
        go_enter Tryd.func13, Tryd.ntmps13
        go_wp2_with (first | ((with_reducible refine gate_store (t := 51) rfl ?_); refine wpList_store_row rfl 51 _ _ rfl _ #[.bool t356, .bool t357, .bool t358, .bool t359, .bool t360, .bool t361, .bool t362, .bool t363, .bool t364, .bool t365, .bool t366, .bool false, .int .i64 t368, .bool false, .int .i64 t370, .bool t371, .int .i64 t372, .bool t373, .int .i64 t374, .bool t375, .int .i64 t376] rfl rfl 51 _ BK377.out (by kernel_rfl) rfl (by simp [Value.oneCell']) ?_; obtain ⟨wrow, hwrow⟩ : ∃ wr_, wr_ = World.setRow w15 gb377 #[.bool t356, .bool t357, .bool t358, .bool t359, .bool t360, .bool t361, .bool t362, .bool t363, .bool t364, .bool t365, .bool t366, .bool false, .int .i64 t368, .bool false, .int .i64 t370, .bool t371, .int .i64 t372, .bool t373, .int .i64 t374, .bool t375, .int .i64 t376] := ⟨_, rfl⟩; rw [← hwrow]; have HBrow := Aside0.mk (by rw [hwrow]; exact age_control.below HB.out GW377.out _ : Below w.heap.size w wrow); have BKrow := Aside0.mk (by rw [hwrow]; exact setRow_heap _ _ _ _ _ _ BK377.out : wrow.heap[gb377]? = some (.cells #[.bool t356, .bool t357, .bool t358, .bool t359, .bool t360, .bool t361, .bool t362, .bool t363, .bool t364, .bool t365, .bool t366, .bool false, .int .i64 t368, .bool false, .int .i64 t370, .bool t371, .int .i64 t372, .bool t373, .int .i64 t374, .bool t375, .int .i64 t376] 51 (0, 0))); clear hwrow HB BK377; have HB := HBrow; have BK377 := BKrow; clear HBrow BKrow; have hcr16_11 : wrow.cell? ⟨gb377, 11, none⟩ = some (.bool false) := (blk_cell BK377.out 11).trans rfl; have hcr16_13 : wrow.cell? ⟨gb377, 13, none⟩ = some (.bool false) := (blk_cell BK377.out 13).trans rfl; clear hcz16_0 hcz16_1 hcz16_2 hcz16_3 hcz16_4 hcz16_5 hcz16_6 hcz16_7 hcz16_8 hcz16_9 hcz16_10 hcz16_11 hcz16_12 hcz16_13 hcz16_14 hcz16_15 hcz16_16 hcz16_17 hcz16_18 hcz16_19 hcz16_20 hfz16_0 hfz16_1 hfz16_2 hfz16_3 hfz16_4 hfz16_5 hfz16_6 hfz16_7 hfz16_8 hfz16_9 hfz16_10 hfz16_11 hfz16_12 hfz16_13 hfz16_14 hfz16_15 hfz16_16 hfz16_17 hfz16_18 hfz16_19 hfz16_20) | ((with_reducible refine gate_callee (f := 27) rfl ?_); refine goesL_ (some 7) rfl rfl Tryd.func27 (by kernel_rfl) rfl #[.slice A1 l1.length c1] rfl (by (try simp only [List.map_toArray, List.map_cons, List.map_nil]); first | done | rfl | (simp only [List.length_drop, List.length_take]; rfl)) ?_; (with_reducible refine (age_control.calls k _ _ l1 t356 t357 t358 t359 t360 t361 t362 t363 t364 t365 t366 false t368 false t370 t371 t372 t373 t374 t375 t376 _ ?side1 ?side2 A3.out).mono ?_); (case side1 => repeat (first | exact HR1.out | (with_reducible refine Kd.C_alloc ?_ _) | (with_reducible refine Kd.C_drewN ?_ _) | (with_reducible refine Kd.C_drew ?_))); (case side2 => exact HC1.out); rintro e w14 ⟨rfl, hb⟩; refine ⟨_, rfl, ?_⟩; have n0_ := Aside0.mk (below_step (by repeat (first | (with_reducible first | exact HB.out | apply below_alloc | apply pw_below_drewN | apply below_drew1) | exact HB.out)) hb); clear HB; have HB := n0_; clear n0_; (try clear hb); (try clear hb2); (try clear hk); (try clear hi)) | ((with_reducible refine gate_dst (N := 5) rfl ?_); (try (refine gate_guard (by rfl) ?_; dsimp only)); refine box_event ?hg (N := 5) ?hd (cs := #[.bool false, .bool false, .bool false, .bool false, .bool false, .bool false, .bool false, .bool false, .bool false, .bool false, .bool false, .bool false, .int .i64 0, .bool false, .int .i64 0, .bool false, .int .i64 0, .bool false, .int .i64 0, .bool false, .int .i64 0]) (t := 51) ?hr ?_; (case hd => rfl); (case hg => rfl); (case hr => first | (go_simp; done) | (go_simp; rfl)); intro gb377 hg w15 hbox hb; have n0_ := Aside0.mk (below_step (by repeat (first | (with_reducible first | exact HB.out | apply below_alloc | apply pw_below_drewN | apply below_drew1) | exact HB.out)) hb); have n1_ := Aside0.mk (hbox); have n2_ := Aside0.mk ((by rw [hg]; exact (below_size (by repeat (first | (with_reducible first | exact HB.out | apply below_alloc | apply pw_below_drewN | apply below_drew1) | exact HB.out))) : w.heap.size ≤ gb377)); have n3_ := Aside0.mk ((by rw [hg]; exact (below_size (by repeat (first | (with_reducible first | exact HB.out | apply below_alloc | apply pw_below_drewN | apply below_drew1) | exact HB.out))) : w.heap.size ≤ gb377)); clear HB; have HB := n0_; have BK377 := n1_; have GW377 := n2_; have GE377 := n3_; clear n0_ n1_ n2_ n3_; clear hb hbox hg; have hcz16_0 : w15.cell? ⟨gb377, 0, none⟩ = some (.bool false) := (blk_cell BK377.out 0).trans rfl; have hcz16_1 : w15.cell? ⟨gb377, 1, none⟩ = some (.bool false) := (blk_cell BK377.out 1).trans rfl; have hcz16_2 : w15.cell? ⟨gb377, 2, none⟩ = some (.bool false) := (blk_cell BK377.out 2).trans rfl; have hcz16_3 : w15.cell? ⟨gb377, 3, none⟩ = some (.bool false) := (blk_cell BK377.out 3).trans rfl; have hcz16_4 : w15.cell? ⟨gb377, 4, none⟩ = some (.bool false) := (blk_cell BK377.out 4).trans rfl; have hcz16_5 : w15.cell? ⟨gb377, 5, none⟩ = some (.bool false) := (blk_cell BK377.out 5).trans rfl; have hcz16_6 : w15.cell? ⟨gb377, 6, none⟩ = some (.bool false) := (blk_cell BK377.out 6).trans rfl; have hcz16_7 : w15.cell? ⟨gb377, 7, none⟩ = some (.bool false) := (blk_cell BK377.out 7).trans rfl; have hcz16_8 : w15.cell? ⟨gb377, 8, none⟩ = some (.bool false) := (blk_cell BK377.out 8).trans rfl; have hcz16_9 : w15.cell? ⟨gb377, 9, none⟩ = some (.bool false) := (blk_cell BK377.out 9).trans rfl; have hcz16_10 : w15.cell? ⟨gb377, 10, none⟩ = some (.bool false) := (blk_cell BK377.out 10).trans rfl; have hcz16_11 : w15.cell? ⟨gb377, 11, none⟩ = some (.bool false) := (blk_cell BK377.out 11).trans rfl; have hcz16_12 : w15.cell? ⟨gb377, 12, none⟩ = some (.int .i64 0) := (blk_cell BK377.out 12).trans rfl; have hcz16_13 : w15.cell? ⟨gb377, 13, none⟩ = some (.bool false) := (blk_cell BK377.out 13).trans rfl; have hcz16_14 : w15.cell? ⟨gb377, 14, none⟩ = some (.int .i64 0) := (blk_cell BK377.out 14).trans rfl; have hcz16_15 : w15.cell? ⟨gb377, 15, none⟩ = some (.bool false) := (blk_cell BK377.out 15).trans rfl; have hcz16_16 : w15.cell? ⟨gb377, 16, none⟩ = some (.int .i64 0) := (blk_cell BK377.out 16).trans rfl; have hcz16_17 : w15.cell? ⟨gb377, 17, none⟩ = some (.bool false) := (blk_cell BK377.out 17).trans rfl; have hcz16_18 : w15.cell? ⟨gb377, 18, none⟩ = some (.int .i64 0) := (blk_cell BK377.out 18).trans rfl; have hcz16_19 : w15.cell? ⟨gb377, 19, none⟩ = some (.bool false) := (blk_cell BK377.out 19).trans rfl; have hcz16_20 : w15.cell? ⟨gb377, 20, none⟩ = some (.int .i64 0) := (blk_cell BK377.out 20).trans rfl; have hfz16_0 := blk_frozen BK377.out 0; have hfz16_1 := blk_frozen BK377.out 1; have hfz16_2 := blk_frozen BK377.out 2; have hfz16_3 := blk_frozen BK377.out 3; have hfz16_4 := blk_frozen BK377.out 4; have hfz16_5 := blk_frozen BK377.out 5; have hfz16_6 := blk_frozen BK377.out 6; have hfz16_7 := blk_frozen BK377.out 7; have hfz16_8 := blk_frozen BK377.out 8; have hfz16_9 := blk_frozen BK377.out 9; have hfz16_10 := blk_frozen BK377.out 10; have hfz16_11 := blk_frozen BK377.out 11; have hfz16_12 := blk_frozen BK377.out 12; have hfz16_13 := blk_frozen BK377.out 13; have hfz16_14 := blk_frozen BK377.out 14; have hfz16_15 := blk_frozen BK377.out 15; have hfz16_16 := blk_frozen BK377.out 16; have hfz16_17 := blk_frozen BK377.out 17; have hfz16_18 := blk_frozen BK377.out 18; have hfz16_19 := blk_frozen BK377.out 19; have hfz16_20 := blk_frozen BK377.out 20) | (go_at_call 16; (with_reducible refine (head_All.calls k _ _ l1 (⟨#[69, 120, 112, 105, 114, 101, 115]⟩ : ByteArray) t378 _ ?side1 ?side2 A13.out).mono ?_); (case side1 => exact Kd.C_below HR1.out (by repeat (first | (with_reducible first | exact HB.out | apply below_alloc | apply pw_below_drewN | apply below_drew1 | refine below_set ?_ GE377.out) | exact HB.out))); (case side2 => exact HC1.out); rintro e w17 ⟨v379, rfl, ho0, hb⟩; have n0_ := Aside0.mk (Kd.R_lower ho0 (below_size (by repeat (first | (with_reducible first | exact HB.out | apply below_alloc | apply pw_below_drewN | apply below_drew1 | refine below_set ?_ GE377.out) | exact HB.out)))); have n1_ := Aside0.mk (blk_below (g := gb377) (o := .cells #[.bool t356, .bool t357, .bool t358, .bool t359, .bool t360, .bool t361, .bool t362, .bool t363, .bool t364, .bool t365, .bool t366, .bool false, .int .i64 t368, .bool false, .int .i64 t370, .bool t371, .int .i64 t372, .bool t373, .int .i64 t374, .bool t375, .int .i64 t376] 51 (0, 0)) BK377.out hb); have n2_ := Aside0.mk (below_step (by repeat (first | (with_reducible first | exact HB.out | apply below_alloc | apply pw_below_drewN | apply below_drew1 | refine below_set ?_ GE377.out) | exact HB.out)) hb); clear BK377; clear HB; have HO380 := n0_; have BK377 := n1_; have HB := n2_; clear n0_ n1_ n2_; (try clear hb); (try clear hb2); (try clear hk); (try clear hi); (try clear ho0); obtain ⟨Ao18, co18, eo18⟩ := Kd.R_slice HO380.out; subst eo18))
        go_ret
        exact ⟨by first | rfl | (simp [errW_none, errW_some] <;> rfl) | (simp [*, errW_none, errW_some] <;> rfl), by repeat (first | (with_reducible first | exact HB.out | apply below_alloc | apply pw_below_drewN | apply below_drew1 | refine below_set ?_ GE377.out) | exact HB.out)⟩
  · replace c4 := Bool.eq_false_iff.mpr c4
    subst c4
    have H1 : (if t367 = true then (some true) else ((head_All.f k l1 (⟨#[69, 120, 112, 105, 114, 101, 115]⟩ : ByteArray)).bind fun t381 => (some (decide ((t381.length : Int) > 0))))) = some r := by rw [if_neg (show ¬ (false = true) by decide)] at H; exact H
    clear H
    have H := H1
    clear H1
    by_cases c19 : t367 = true
    · subst c19
      have H1 : (some true) = some r := by rw [if_pos rfl] at H; exact H
      clear H
      have H := H1
      clear H1
      obtain rfl := Option.some.inj H
      go_enter Tryd.func13, Tryd.ntmps13
      go_wp2_with (first | ((with_reducible refine gate_store (t := 51) rfl ?_); refine wpList_store_row rfl 51 _ _ rfl _ #[.bool t356, .bool t357, .bool t358, .bool t359, .bool t360, .bool t361, .bool t362, .bool t363, .bool t364, .bool t365, .bool t366, .bool true, .int .i64 t368, .bool t369, .int .i64 t370, .bool t371, .int .i64 t372, .bool t373, .int .i64 t374, .bool t375, .int .i64 t376] rfl rfl 51 _ BK377.out (by kernel_rfl) rfl (by simp [Value.oneCell']) ?_; obtain ⟨wrow, hwrow⟩ : ∃ wr_, wr_ = World.setRow w21 gb377 #[.bool t356, .bool t357, .bool t358, .bool t359, .bool t360, .bool t361, .bool t362, .bool t363, .bool t364, .bool t365, .bool t366, .bool true, .int .i64 t368, .bool t369, .int .i64 t370, .bool t371, .int .i64 t372, .bool t373, .int .i64 t374, .bool t375, .int .i64 t376] := ⟨_, rfl⟩; rw [← hwrow]; have HBrow := Aside0.mk (by rw [hwrow]; exact age_control.below HB.out GW377.out _ : Below w.heap.size w wrow); have BKrow := Aside0.mk (by rw [hwrow]; exact setRow_heap _ _ _ _ _ _ BK377.out : wrow.heap[gb377]? = some (.cells #[.bool t356, .bool t357, .bool t358, .bool t359, .bool t360, .bool t361, .bool t362, .bool t363, .bool t364, .bool t365, .bool t366, .bool true, .int .i64 t368, .bool t369, .int .i64 t370, .bool t371, .int .i64 t372, .bool t373, .int .i64 t374, .bool t375, .int .i64 t376] 51 (0, 0))); clear hwrow HB BK377; have HB := HBrow; have BK377 := BKrow; clear HBrow BKrow; have hcr22_11 : wrow.cell? ⟨gb377, 11, none⟩ = some (.bool true) := (blk_cell BK377.out 11).trans rfl; have hcr22_13 : wrow.cell? ⟨gb377, 13, none⟩ = some (.bool t369) := (blk_cell BK377.out 13).trans rfl; clear hcz22_0 hcz22_1 hcz22_2 hcz22_3 hcz22_4 hcz22_5 hcz22_6 hcz22_7 hcz22_8 hcz22_9 hcz22_10 hcz22_11 hcz22_12 hcz22_13 hcz22_14 hcz22_15 hcz22_16 hcz22_17 hcz22_18 hcz22_19 hcz22_20 hfz22_0 hfz22_1 hfz22_2 hfz22_3 hfz22_4 hfz22_5 hfz22_6 hfz22_7 hfz22_8 hfz22_9 hfz22_10 hfz22_11 hfz22_12 hfz22_13 hfz22_14 hfz22_15 hfz22_16 hfz22_17 hfz22_18 hfz22_19 hfz22_20) | ((with_reducible refine gate_callee (f := 27) rfl ?_); refine goesL_ (some 7) rfl rfl Tryd.func27 (by kernel_rfl) rfl #[.slice A1 l1.length c1] rfl (by (try simp only [List.map_toArray, List.map_cons, List.map_nil]); first | done | rfl | (simp only [List.length_drop, List.length_take]; rfl)) ?_; (with_reducible refine (age_control.calls k _ _ l1 t356 t357 t358 t359 t360 t361 t362 t363 t364 t365 t366 true t368 t369 t370 t371 t372 t373 t374 t375 t376 _ ?side1 ?side2 A3.out).mono ?_); (case side1 => repeat (first | exact HR1.out | (with_reducible refine Kd.C_alloc ?_ _) | (with_reducible refine Kd.C_drewN ?_ _) | (with_reducible refine Kd.C_drew ?_))); (case side2 => exact HC1.out); rintro e w20 ⟨rfl, hb⟩; refine ⟨_, rfl, ?_⟩; have n0_ := Aside0.mk (below_step (by repeat (first | (with_reducible first | exact HB.out | apply below_alloc | apply pw_below_drewN | apply below_drew1) | exact HB.out)) hb); clear HB; have HB := n0_; clear n0_; (try clear hb); (try clear hb2); (try clear hk); (try clear hi)) | ((with_reducible refine gate_dst (N := 5) rfl ?_); (try (refine gate_guard (by rfl) ?_; dsimp only)); refine box_event ?hg (N := 5) ?hd (cs := #[.bool false, .bool false, .bool false, .bool false, .bool false, .bool false, .bool false, .bool false, .bool false, .bool false, .bool false, .bool false, .int .i64 0, .bool false, .int .i64 0, .bool false, .int .i64 0, .bool false, .int .i64 0, .bool false, .int .i64 0]) (t := 51) ?hr ?_; (case hd => rfl); (case hg => rfl); (case hr => first | (go_simp; done) | (go_simp; rfl)); intro gb377 hg w21 hbox hb; have n0_ := Aside0.mk (below_step (by repeat (first | (with_reducible first | exact HB.out | apply below_alloc | apply pw_below_drewN | apply below_drew1) | exact HB.out)) hb); have n1_ := Aside0.mk (hbox); have n2_ := Aside0.mk ((by rw [hg]; exact (below_size (by repeat (first | (with_reducible first | exact HB.out | apply below_alloc | apply pw_below_drewN | apply below_drew1) | exact HB.out))) : w.heap.size ≤ gb377)); have n3_ := Aside0.mk ((by rw [hg]; exact (below_size (by repeat (first | (with_reducible first | exact HB.out | apply below_alloc | apply pw_below_drewN | apply below_drew1) | exact HB.out))) : w.heap.size ≤ gb377)); clear HB; have HB := n0_; have BK377 := n1_; have GW377 := n2_; have GE377 := n3_; clear n0_ n1_ n2_ n3_; clear hb hbox hg; have hcz22_0 : w21.cell? ⟨gb377, 0, none⟩ = some (.bool false) := (blk_cell BK377.out 0).trans rfl; have hcz22_1 : w21.cell? ⟨gb377, 1, none⟩ = some (.bool false) := (blk_cell BK377.out 1).trans rfl; have hcz22_2 : w21.cell? ⟨gb377, 2, none⟩ = some (.bool false) := (blk_cell BK377.out 2).trans rfl; have hcz22_3 : w21.cell? ⟨gb377, 3, none⟩ = some (.bool false) := (blk_cell BK377.out 3).trans rfl; have hcz22_4 : w21.cell? ⟨gb377, 4, none⟩ = some (.bool false) := (blk_cell BK377.out 4).trans rfl; have hcz22_5 : w21.cell? ⟨gb377, 5, none⟩ = some (.bool false) := (blk_cell BK377.out 5).trans rfl; have hcz22_6 : w21.cell? ⟨gb377, 6, none⟩ = some (.bool false) := (blk_cell BK377.out 6).trans rfl; have hcz22_7 : w21.cell? ⟨gb377, 7, none⟩ = some (.bool false) := (blk_cell BK377.out 7).trans rfl; have hcz22_8 : w21.cell? ⟨gb377, 8, none⟩ = some (.bool false) := (blk_cell BK377.out 8).trans rfl; have hcz22_9 : w21.cell? ⟨gb377, 9, none⟩ = some (.bool false) := (blk_cell BK377.out 9).trans rfl; have hcz22_10 : w21.cell? ⟨gb377, 10, none⟩ = some (.bool false) := (blk_cell BK377.out 10).trans rfl; have hcz22_11 : w21.cell? ⟨gb377, 11, none⟩ = some (.bool false) := (blk_cell BK377.out 11).trans rfl; have hcz22_12 : w21.cell? ⟨gb377, 12, none⟩ = some (.int .i64 0) := (blk_cell BK377.out 12).trans rfl; have hcz22_13 : w21.cell? ⟨gb377, 13, none⟩ = some (.bool false) := (blk_cell BK377.out 13).trans rfl; have hcz22_14 : w21.cell? ⟨gb377, 14, none⟩ = some (.int .i64 0) := (blk_cell BK377.out 14).trans rfl; have hcz22_15 : w21.cell? ⟨gb377, 15, none⟩ = some (.bool false) := (blk_cell BK377.out 15).trans rfl; have hcz22_16 : w21.cell? ⟨gb377, 16, none⟩ = some (.int .i64 0) := (blk_cell BK377.out 16).trans rfl; have hcz22_17 : w21.cell? ⟨gb377, 17, none⟩ = some (.bool false) := (blk_cell BK377.out 17).trans rfl; have hcz22_18 : w21.cell? ⟨gb377, 18, none⟩ = some (.int .i64 0) := (blk_cell BK377.out 18).trans rfl; have hcz22_19 : w21.cell? ⟨gb377, 19, none⟩ = some (.bool false) := (blk_cell BK377.out 19).trans rfl; have hcz22_20 : w21.cell? ⟨gb377, 20, none⟩ = some (.int .i64 0) := (blk_cell BK377.out 20).trans rfl; have hfz22_0 := blk_frozen BK377.out 0; have hfz22_1 := blk_frozen BK377.out 1; have hfz22_2 := blk_frozen BK377.out 2; have hfz22_3 := blk_frozen BK377.out 3; have hfz22_4 := blk_frozen BK377.out 4; have hfz22_5 := blk_frozen BK377.out 5; have hfz22_6 := blk_frozen BK377.out 6; have hfz22_7 := blk_frozen BK377.out 7; have hfz22_8 := blk_frozen BK377.out 8; have hfz22_9 := blk_frozen BK377.out 9; have hfz22_10 := blk_frozen BK377.out 10; have hfz22_11 := blk_frozen BK377.out 11; have hfz22_12 := blk_frozen BK377.out 12; have hfz22_13 := blk_frozen BK377.out 13; have hfz22_14 := blk_frozen BK377.out 14; have hfz22_15 := blk_frozen BK377.out 15; have hfz22_16 := blk_frozen BK377.out 16; have hfz22_17 := blk_frozen BK377.out 17; have hfz22_18 := blk_frozen BK377.out 18; have hfz22_19 := blk_frozen BK377.out 19; have hfz22_20 := blk_frozen BK377.out 20))
      go_ret
      exact ⟨by first | rfl | (simp [errW_none, errW_some] <;> rfl) | (simp [*, errW_none, errW_some] <;> rfl), by repeat (first | (with_reducible first | exact HB.out | apply below_alloc | apply pw_below_drewN | apply below_drew1 | refine below_set ?_ GE377.out) | exact HB.out)⟩
    · replace c19 := Bool.eq_false_iff.mpr c19
      subst c19
      have H1 : ((head_All.f k l1 (⟨#[69, 120, 112, 105, 114, 101, 115]⟩ : ByteArray)).bind fun t381 => (some (decide ((t381.length : Int) > 0)))) = some r := by rw [if_neg (show ¬ (false = true) by decide)] at H; exact H
      clear H
      have H := H1
      clear H1
      replace H := Option.bind_eq_some_iff.mp H
      obtain ⟨t381, A230, H⟩ := H
      replace H : (some (decide ((t381.length : Int) > 0))) = some r := H
      have A23 := Aside0.mk A230
      clear A230
      obtain rfl := Option.some.inj H
      go_enter Tryd.func13, Tryd.ntmps13
      go_wp2_with (first | ((with_reducible refine gate_store (t := 51) rfl ?_); refine wpList_store_row rfl 51 _ _ rfl _ #[.bool t356, .bool t357, .bool t358, .bool t359, .bool t360, .bool t361, .bool t362, .bool t363, .bool t364, .bool t365, .bool t366, .bool false, .int .i64 t368, .bool t369, .int .i64 t370, .bool t371, .int .i64 t372, .bool t373, .int .i64 t374, .bool t375, .int .i64 t376] rfl rfl 51 _ BK377.out (by kernel_rfl) rfl (by simp [Value.oneCell']) ?_; obtain ⟨wrow, hwrow⟩ : ∃ wr_, wr_ = World.setRow w25 gb377 #[.bool t356, .bool t357, .bool t358, .bool t359, .bool t360, .bool t361, .bool t362, .bool t363, .bool t364, .bool t365, .bool t366, .bool false, .int .i64 t368, .bool t369, .int .i64 t370, .bool t371, .int .i64 t372, .bool t373, .int .i64 t374, .bool t375, .int .i64 t376] := ⟨_, rfl⟩; rw [← hwrow]; have HBrow := Aside0.mk (by rw [hwrow]; exact age_control.below HB.out GW377.out _ : Below w.heap.size w wrow); have BKrow := Aside0.mk (by rw [hwrow]; exact setRow_heap _ _ _ _ _ _ BK377.out : wrow.heap[gb377]? = some (.cells #[.bool t356, .bool t357, .bool t358, .bool t359, .bool t360, .bool t361, .bool t362, .bool t363, .bool t364, .bool t365, .bool t366, .bool false, .int .i64 t368, .bool t369, .int .i64 t370, .bool t371, .int .i64 t372, .bool t373, .int .i64 t374, .bool t375, .int .i64 t376] 51 (0, 0))); clear hwrow HB BK377; have HB := HBrow; have BK377 := BKrow; clear HBrow BKrow; have hcr26_11 : wrow.cell? ⟨gb377, 11, none⟩ = some (.bool false) := (blk_cell BK377.out 11).trans rfl; have hcr26_13 : wrow.cell? ⟨gb377, 13, none⟩ = some (.bool t369) := (blk_cell BK377.out 13).trans rfl; clear hcz26_0 hcz26_1 hcz26_2 hcz26_3 hcz26_4 hcz26_5 hcz26_6 hcz26_7 hcz26_8 hcz26_9 hcz26_10 hcz26_11 hcz26_12 hcz26_13 hcz26_14 hcz26_15 hcz26_16 hcz26_17 hcz26_18 hcz26_19 hcz26_20 hfz26_0 hfz26_1 hfz26_2 hfz26_3 hfz26_4 hfz26_5 hfz26_6 hfz26_7 hfz26_8 hfz26_9 hfz26_10 hfz26_11 hfz26_12 hfz26_13 hfz26_14 hfz26_15 hfz26_16 hfz26_17 hfz26_18 hfz26_19 hfz26_20) | ((with_reducible refine gate_callee (f := 27) rfl ?_); refine goesL_ (some 7) rfl rfl Tryd.func27 (by kernel_rfl) rfl #[.slice A1 l1.length c1] rfl (by (try simp only [List.map_toArray, List.map_cons, List.map_nil]); first | done | rfl | (simp only [List.length_drop, List.length_take]; rfl)) ?_; (with_reducible refine (age_control.calls k _ _ l1 t356 t357 t358 t359 t360 t361 t362 t363 t364 t365 t366 false t368 t369 t370 t371 t372 t373 t374 t375 t376 _ ?side1 ?side2 A3.out).mono ?_); (case side1 => repeat (first | exact HR1.out | (with_reducible refine Kd.C_alloc ?_ _) | (with_reducible refine Kd.C_drewN ?_ _) | (with_reducible refine Kd.C_drew ?_))); (case side2 => exact HC1.out); rintro e w24 ⟨rfl, hb⟩; refine ⟨_, rfl, ?_⟩; have n0_ := Aside0.mk (below_step (by repeat (first | (with_reducible first | exact HB.out | apply below_alloc | apply pw_below_drewN | apply below_drew1) | exact HB.out)) hb); clear HB; have HB := n0_; clear n0_; (try clear hb); (try clear hb2); (try clear hk); (try clear hi)) | ((with_reducible refine gate_dst (N := 5) rfl ?_); (try (refine gate_guard (by rfl) ?_; dsimp only)); refine box_event ?hg (N := 5) ?hd (cs := #[.bool false, .bool false, .bool false, .bool false, .bool false, .bool false, .bool false, .bool false, .bool false, .bool false, .bool false, .bool false, .int .i64 0, .bool false, .int .i64 0, .bool false, .int .i64 0, .bool false, .int .i64 0, .bool false, .int .i64 0]) (t := 51) ?hr ?_; (case hd => rfl); (case hg => rfl); (case hr => first | (go_simp; done) | (go_simp; rfl)); intro gb377 hg w25 hbox hb; have n0_ := Aside0.mk (below_step (by repeat (first | (with_reducible first | exact HB.out | apply below_alloc | apply pw_below_drewN | apply below_drew1) | exact HB.out)) hb); have n1_ := Aside0.mk (hbox); have n2_ := Aside0.mk ((by rw [hg]; exact (below_size (by repeat (first | (with_reducible first | exact HB.out | apply below_alloc | apply pw_below_drewN | apply below_drew1) | exact HB.out))) : w.heap.size ≤ gb377)); have n3_ := Aside0.mk ((by rw [hg]; exact (below_size (by repeat (first | (with_reducible first | exact HB.out | apply below_alloc | apply pw_below_drewN | apply below_drew1) | exact HB.out))) : w.heap.size ≤ gb377)); clear HB; have HB := n0_; have BK377 := n1_; have GW377 := n2_; have GE377 := n3_; clear n0_ n1_ n2_ n3_; clear hb hbox hg; have hcz26_0 : w25.cell? ⟨gb377, 0, none⟩ = some (.bool false) := (blk_cell BK377.out 0).trans rfl; have hcz26_1 : w25.cell? ⟨gb377, 1, none⟩ = some (.bool false) := (blk_cell BK377.out 1).trans rfl; have hcz26_2 : w25.cell? ⟨gb377, 2, none⟩ = some (.bool false) := (blk_cell BK377.out 2).trans rfl; have hcz26_3 : w25.cell? ⟨gb377, 3, none⟩ = some (.bool false) := (blk_cell BK377.out 3).trans rfl; have hcz26_4 : w25.cell? ⟨gb377, 4, none⟩ = some (.bool false) := (blk_cell BK377.out 4).trans rfl; have hcz26_5 : w25.cell? ⟨gb377, 5, none⟩ = some (.bool false) := (blk_cell BK377.out 5).trans rfl; have hcz26_6 : w25.cell? ⟨gb377, 6, none⟩ = some (.bool false) := (blk_cell BK377.out 6).trans rfl; have hcz26_7 : w25.cell? ⟨gb377, 7, none⟩ = some (.bool false) := (blk_cell BK377.out 7).trans rfl; have hcz26_8 : w25.cell? ⟨gb377, 8, none⟩ = some (.bool false) := (blk_cell BK377.out 8).trans rfl; have hcz26_9 : w25.cell? ⟨gb377, 9, none⟩ = some (.bool false) := (blk_cell BK377.out 9).trans rfl; have hcz26_10 : w25.cell? ⟨gb377, 10, none⟩ = some (.bool false) := (blk_cell BK377.out 10).trans rfl; have hcz26_11 : w25.cell? ⟨gb377, 11, none⟩ = some (.bool false) := (blk_cell BK377.out 11).trans rfl; have hcz26_12 : w25.cell? ⟨gb377, 12, none⟩ = some (.int .i64 0) := (blk_cell BK377.out 12).trans rfl; have hcz26_13 : w25.cell? ⟨gb377, 13, none⟩ = some (.bool false) := (blk_cell BK377.out 13).trans rfl; have hcz26_14 : w25.cell? ⟨gb377, 14, none⟩ = some (.int .i64 0) := (blk_cell BK377.out 14).trans rfl; have hcz26_15 : w25.cell? ⟨gb377, 15, none⟩ = some (.bool false) := (blk_cell BK377.out 15).trans rfl; have hcz26_16 : w25.cell? ⟨gb377, 16, none⟩ = some (.int .i64 0) := (blk_cell BK377.out 16).trans rfl; have hcz26_17 : w25.cell? ⟨gb377, 17, none⟩ = some (.bool false) := (blk_cell BK377.out 17).trans rfl; have hcz26_18 : w25.cell? ⟨gb377, 18, none⟩ = some (.int .i64 0) := (blk_cell BK377.out 18).trans rfl; have hcz26_19 : w25.cell? ⟨gb377, 19, none⟩ = some (.bool false) := (blk_cell BK377.out 19).trans rfl; have hcz26_20 : w25.cell? ⟨gb377, 20, none⟩ = some (.int .i64 0) := (blk_cell BK377.out 20).trans rfl; have hfz26_0 := blk_frozen BK377.out 0; have hfz26_1 := blk_frozen BK377.out 1; have hfz26_2 := blk_frozen BK377.out 2; have hfz26_3 := blk_frozen BK377.out 3; have hfz26_4 := blk_frozen BK377.out 4; have hfz26_5 := blk_frozen BK377.out 5; have hfz26_6 := blk_frozen BK377.out 6; have hfz26_7 := blk_frozen BK377.out 7; have hfz26_8 := blk_frozen BK377.out 8; have hfz26_9 := blk_frozen BK377.out 9; have hfz26_10 := blk_frozen BK377.out 10; have hfz26_11 := blk_frozen BK377.out 11; have hfz26_12 := blk_frozen BK377.out 12; have hfz26_13 := blk_frozen BK377.out 13; have hfz26_14 := blk_frozen BK377.out 14; have hfz26_15 := blk_frozen BK377.out 15; have hfz26_16 := blk_frozen BK377.out 16; have hfz26_17 := blk_frozen BK377.out 17; have hfz26_18 := blk_frozen BK377.out 18; have hfz26_19 := blk_frozen BK377.out 19; have hfz26_20 := blk_frozen BK377.out 20) | (go_at_call 16; (with_reducible refine (head_All.calls k _ _ l1 (⟨#[69, 120, 112, 105, 114, 101, 115]⟩ : ByteArray) t381 _ ?side1 ?side2 A23.out).mono ?_); (case side1 => exact Kd.C_below HR1.out (by repeat (first | (with_reducible first | exact HB.out | apply below_alloc | apply pw_below_drewN | apply below_drew1 | refine below_set ?_ GE377.out) | exact HB.out))); (case side2 => exact HC1.out); rintro e w27 ⟨v382, rfl, ho0, hb⟩; have n0_ := Aside0.mk (Kd.R_lower ho0 (below_size (by repeat (first | (with_reducible first | exact HB.out | apply below_alloc | apply pw_below_drewN | apply below_drew1 | refine below_set ?_ GE377.out) | exact HB.out)))); have n1_ := Aside0.mk (blk_below (g := gb377) (o := .cells #[.bool t356, .bool t357, .bool t358, .bool t359, .bool t360, .bool t361, .bool t362, .bool t363, .bool t364, .bool t365, .bool t366, .bool false, .int .i64 t368, .bool t369, .int .i64 t370, .bool t371, .int .i64 t372, .bool t373, .int .i64 t374, .bool t375, .int .i64 t376] 51 (0, 0)) BK377.out hb); have n2_ := Aside0.mk (below_step (by repeat (first | (with_reducible first | exact HB.out | apply below_alloc | apply pw_below_drewN | apply below_drew1 | refine below_set ?_ GE377.out) | exact HB.out)) hb); clear BK377; clear HB; have HO383 := n0_; have BK377 := n1_; have HB := n2_; clear n0_ n1_ n2_; (try clear hb); (try clear hb2); (try clear hk); (try clear hi); (try clear ho0); obtain ⟨Ao28, co28, eo28⟩ := Kd.R_slice HO383.out; subst eo28))
      go_ret
      exact ⟨by first | rfl | (simp [errW_none, errW_some] <;> rfl) | (simp [*, errW_none, errW_some] <;> rfl), by repeat (first | (with_reducible first | exact HB.out | apply below_alloc | apply pw_below_drewN | apply below_drew1 | refine below_set ?_ GE377.out) | exact HB.out)⟩

end Go.Proofs.YtdikhinmlpihdaaDoor.Q
