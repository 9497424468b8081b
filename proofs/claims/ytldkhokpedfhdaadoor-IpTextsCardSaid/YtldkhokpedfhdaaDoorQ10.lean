-- Written by a program of this session's (wip/xprint.py), out of the seat's translation.
import Derived.Test.YtldkhokpedfhdaaDoorQ0
import Derived.Test.YtldkhokpedfhdaaDoorQ1
import Derived.Test.YtldkhokpedfhdaaDoorQ3
import Derived.Test.YtldkhokpedfhdaaDoorQ4
import Derived.Test.YtldkhokpedfhdaaDoorQ6
import Derived.Test.YtldkhokpedfhdaaDoorQ7
import Derived.Test.YtldkhokpedfhdaaDoorQ9
namespace Go.Proofs.YtldkhokpedfhdaaDoor.Q
open Go.RowKit Go.Proofs.YtldkhokpedfhdaaDoorW.PrintWords Go.Proofs.YtldkhokpedfhdaaDoorW.PrintLast Go.Proofs.YtldkhokpedfhdaaDoorW.PrintMore
attribute [local go_sem] max2_int min2_int max_two min_two max_three min_three max_four min_four   -- for this text's walks alone
set_option linter.unusedVariables false
set_option linter.unusedSimpArgs false

/-! ### sprref7_Ends: function 17 -/
def sprref7_Ends.j0 : Nat → ByteArray → Bool → Option (Bool)
  | 0, _, _ => none
  | k + 1, x4, x19 => if x19 = true then (some false) else (if x4.toList = ([] : List UInt8) then ((sprref7_hex.f x4).bind fun t293 => (if t293 = true then (if 2 ≤ (x4.size : Int) then ((sprref7_digits.f k (x4.extract 2 x4.size) 16).bind fun t294 => (some t294)) else (none)) else (some false))) else ((sprref7_digits.f k x4 10).bind fun t295 => (if t295 = true then (some true) else ((sprref7_hex.f x4).bind fun t296 => (if t296 = true then (if 2 ≤ (x4.size : Int) then ((sprref7_digits.f k (x4.extract 2 x4.size) 16).bind fun t297 => (some t297)) else (none)) else (some false))))))
def sprref7_Ends.f (k : Nat) (a0 : ByteArray) : Option (Bool) := (sprref7_parts.f k a0).bind fun t289 => (if 0 ≤ (wrap64 ((t289.length : Int) - 1)) then (if (wrap64 ((t289.length : Int) - 1)) < (t289.length : Int) then (if (t289.length : Int) = 1 then (sprref7_Ends.j0 k (rdOf ByteArray.empty t289 (wrap64 ((t289.length : Int) - 1))) ((rdOf ByteArray.empty t289 (wrap64 ((t289.length : Int) - 1))).toList == ([] : List UInt8))) else (sprref7_Ends.j0 k (rdOf ByteArray.empty t289 (wrap64 ((t289.length : Int) - 1))) false)) else (none)) else (none))
theorem sprref7_Ends.mono_l : ∀ k, (∀ y0 y1, LeO (sprref7_Ends.j0 k y0 y1) (sprref7_Ends.j0 (k + 1) y0 y1))
  | 0 => fun _ _ r h => by simp [sprref7_Ends.j0] at h
  | k + 1 => by
    have ih0 := sprref7_Ends.mono_l k
    · intro y0 y1
      unfold sprref7_Ends.j0
      repeat' first
      | (with_reducible exact ih0 _ _)
      | (with_reducible exact sprref7_digits.mono _ _ _)
      | (with_reducible exact sprref7_parts.mono _ _)
      | (with_reducible exact LeO.refl _)
      | (with_reducible exact LeO.none _)
      | (with_reducible refine LeO.ite ?_ ?_)
      | (with_reducible refine LeO.bind ?_ (fun _ => ?_))
      | exact ih0 _ _
      | exact sprref7_digits.mono _ _ _
      | exact sprref7_parts.mono _ _
      | exact LeO.none _
      | refine LeO.ite ?_ ?_
      | refine LeO.bind ?_ (fun _ => ?_)
theorem sprref7_Ends.mono : ∀ a0 k, LeO (sprref7_Ends.f k a0) (sprref7_Ends.f (k + 1) a0) := by
  intro a0 k
  have ih0 := sprref7_Ends.mono_l k
  unfold sprref7_Ends.f
  repeat' first
      | (with_reducible exact ih0 _ _)
      | (with_reducible exact sprref7_digits.mono _ _ _)
      | (with_reducible exact sprref7_parts.mono _ _)
      | (with_reducible exact LeO.refl _)
      | (with_reducible exact LeO.none _)
      | (with_reducible refine LeO.ite ?_ ?_)
      | (with_reducible refine LeO.bind ?_ (fun _ => ?_))
      | exact ih0 _ _
      | exact sprref7_digits.mono _ _ _
      | exact sprref7_parts.mono _ _
      | exact LeO.none _
      | refine LeO.ite ?_ ?_
      | refine LeO.bind ?_ (fun _ => ?_)
set_option maxHeartbeats 2000000 in
set_option maxRecDepth 100000 in
theorem sprref7_Ends.calls (k : Nat) (a0 : ByteArray) (r : Bool) (w : World) (h : sprref7_Ends.f k a0 = some r) :
    Calls Tryd.prog 17 #[.string a0] w fun e w' => e = .returned (.bool r) ∧ Below w.heap.size w w' := by
  have HB := Aside0.mk (Below.refl w.heap.size w)
  have H : ((sprref7_parts.f k a0).bind fun t289 => (if 0 ≤ (wrap64 ((t289.length : Int) - 1)) then (if (wrap64 ((t289.length : Int) - 1)) < (t289.length : Int) then (if (t289.length : Int) = 1 then (sprref7_Ends.j0 k (rdOf ByteArray.empty t289 (wrap64 ((t289.length : Int) - 1))) ((rdOf ByteArray.empty t289 (wrap64 ((t289.length : Int) - 1))).toList == ([] : List UInt8))) else (sprref7_Ends.j0 k (rdOf ByteArray.empty t289 (wrap64 ((t289.length : Int) - 1))) false)) else (none)) else (none))) = some r := h
  clear h
  replace H := Option.bind_eq_some_iff.mp H
  obtain ⟨t289, A20, H⟩ := H
  replace H : (if 0 ≤ (wrap64 ((t289.length : Int) - 1)) then (if (wrap64 ((t289.length : Int) - 1)) < (t289.length : Int) then (if (t289.length : Int) = 1 then (sprref7_Ends.j0 k (rdOf ByteArray.empty t289 (wrap64 ((t289.length : Int) - 1))) ((rdOf ByteArray.empty t289 (wrap64 ((t289.length : Int) - 1))).toList == ([] : List UInt8))) else (sprref7_Ends.j0 k (rdOf ByteArray.empty t289 (wrap64 ((t289.length : Int) - 1))) false)) else (none)) else (none)) = some r := H
  have A2 := Aside0.mk A20
  clear A20
  obtain ⟨ji3, hji3⟩ : ∃ j_ : Int, (wrap64 ((t289.length : Int) - 1)) = j_ := ⟨_, rfl⟩
  replace H : (if 0 ≤ (ji3) then (if (ji3) < (t289.length : Int) then (if (t289.length : Int) = 1 then (sprref7_Ends.j0 k (rdOf ByteArray.empty t289 (ji3)) ((rdOf ByteArray.empty t289 (ji3)).toList == ([] : List UInt8))) else (sprref7_Ends.j0 k (rdOf ByteArray.empty t289 (ji3)) false)) else (none)) else (none)) = some r := by first | (rw [hji3] at H; exact H) | (simp only [hji3] at H ⊢; exact H)
  (try rw [hji3] at A2)
  have hji3w : (IntKind.i64.wrap ((t289.length : Int) - 1)) = ji3 := (i64_w _).trans hji3
  by_cases c4 : 0 ≤ (ji3)
  · rw [if_pos c4] at H
    have c4b0 : decide (0 ≤ (ji3)) = true := decide_eq_true c4
    clear c4
    by_cases c5 : (ji3) < (t289.length : Int)
    · rw [if_pos c5] at H
      have c5b0 : decide ((ji3) < (t289.length : Int)) = true := decide_eq_true c5
      clear c5
      have HC6 := Aside0.mk H
      clear H
      go_enter Tryd.func17, Tryd.ntmps17
      go_upto_region 3 with (first | ((with_reducible refine gate_callee (f := 27) rfl ?_); refine goesL_ (some 6) rfl rfl Tryd.func27 (by kernel_rfl) rfl #[.string a0] rfl (by (try simp only [List.map_toArray, List.map_cons, List.map_nil]); first | done | rfl | (simp only [List.length_drop, List.length_take]; rfl)) ?_; (with_reducible refine (sprref7_parts.calls k a0 t289 _ A2.out).mono ?_); rintro e w7 ⟨v290, rfl, ho0, hb⟩; refine ⟨_, rfl, ?_⟩; have n0_ := Aside0.mk (Kd.R_lower ho0 (below_size (by repeat (first | (with_reducible first | exact HB.out | apply below_alloc | apply pw_below_drewN | apply below_drew1) | exact HB.out)))); have n1_ := Aside0.mk (below_step (by repeat (first | (with_reducible first | exact HB.out | apply below_alloc | apply pw_below_drewN | apply below_drew1) | exact HB.out)) hb); clear HB; have HO291 := n0_; have HB := n1_; clear n0_ n1_; (try clear hb); (try clear hb2); (try clear hk); (try clear hi); (try clear ho0); obtain ⟨Ao8, co8, eo8⟩ := Kd.R_slice HO291.out; subst eo8; have p292 : 0 ≤ ((ji3) : Int) := of_decide_eq_true (by first | (with_reducible assumption) | assumption); have q292 : (ji3) < (t289.length : Int) := of_decide_eq_true (by first | (with_reducible assumption) | assumption); obtain ⟨ad292, e292, hx292_0⟩ := Kd.at_string (Kd.R_reads' HO291.out).2.2 (ji3) p292 q292; cases e292; replace p292 := eq_true p292; replace q292 := eq_true q292))
      (try simp only [Act.put, List.setIfInBounds_toArray, List.set_cons_zero, List.set_cons_succ])
      go_cut [19] (fun v19 wc => ∃ (kq : Nat) (x19_5 : Bool), v19 = .bool x19_5 ∧ Aside0 (sprref7_Ends.j0 kq (rdOf ByteArray.empty t289 (ji3)) x19_5 = some r) ∧ Aside0 (kq ≤ k) ∧ Aside0 (Below w.heap.size w wc))
      case first =>
        have H := HC6.out
        clear HC6
        by_cases c9 : (t289.length : Int) = 1
        · rw [if_pos c9] at H
          have c9b0 : ((t289.length : Int) == 1) = true := beq_iff_eq.mpr c9
          have c9b1 : ((t289.length : Int) != 1) = false := bne_eq_false_iff_eq.mpr c9
          clear c9
          (first | rw [c9b0] | (simp only [i64_w, i32_w]; rw [c9b0]) | skip)
          have H' := Aside0.mk H
          clear H
          go_wp2
          go_meet
          case rel => exact ⟨_, (((rdOf ByteArray.empty t289 (ji3)).toList == ([] : List UInt8))), (by first | rfl | (simp; done) | (simp only [← hji3] <;> (first | rfl | simp)) | (simp [*]; done)), H', ⟨by first | omega | exact Nat.le_refl _⟩, ⟨by repeat (first | (with_reducible first | exact HB.out | apply below_alloc | apply pw_below_drewN | apply below_drew1) | exact HB.out)⟩⟩
        · rw [if_neg c9] at H
          have c9b0 : ((t289.length : Int) == 1) = false := beq_eq_false_iff_ne.mpr c9
          have c9b1 : ((t289.length : Int) != 1) = true := bne_iff_ne.mpr c9
          (first | rw [c9b0] | (simp only [i64_w, i32_w]; rw [c9b0]) | skip)
          have H' := Aside0.mk H
          clear H
          go_wp2
          go_meet
          case rel => exact ⟨_, (false), (by first | rfl | (simp; done) | (simp [*]; done)), H', ⟨by first | omega | exact Nat.le_refl _⟩, ⟨by repeat (first | (with_reducible first | exact HB.out | apply below_alloc | apply pw_below_drewN | apply below_drew1) | exact HB.out)⟩⟩
      case rest =>
        clear HC6
        try clear c1
        try clear c2
        try clear p2
        try clear q2
        try clear hx2
        try clear c4
        try clear c4b0
        try clear c5
        try clear c5b0
        try clear p6
        try clear c9
        try clear c9b0
        try clear c9b1
        try clear hx292_0
        try clear p292
        try clear q292
        obtain ⟨kq, x19_5, rfl, HA, HJ5, HB⟩ := hcut
        cases kq with
        | zero => exact absurd HA.out (by simp [sprref7_Ends.j0])
        | succ kj5 =>
          have H := HA.out
          clear HA
          simp only [sprref7_Ends.j0] at H
          by_cases c10 : x19_5 = true
          · subst c10
            have H1 : (some false) = some r := by rw [if_pos rfl] at H; exact H
            clear H
            have H := H1
            clear H1
            obtain rfl := Option.some.inj H
            go_wp2
            go_ret
            exact ⟨by first | rfl | (simp [errW_none, errW_some] <;> rfl) | (simp only [← hji3]; first | rfl | (simp [errW_none, errW_some] <;> rfl)) | (simp [*, errW_none, errW_some] <;> rfl), by repeat (first | (with_reducible first | exact HB.out | apply below_alloc | apply pw_below_drewN | apply below_drew1) | exact HB.out)⟩
          · replace c10 := Bool.eq_false_iff.mpr c10
            subst c10
            have H1 : (if (rdOf ByteArray.empty t289 (ji3)).toList = ([] : List UInt8) then ((sprref7_hex.f (rdOf ByteArray.empty t289 (ji3))).bind fun t293 => (if t293 = true then (if 2 ≤ ((rdOf ByteArray.empty t289 (ji3)).size : Int) then ((sprref7_digits.f kj5 ((rdOf ByteArray.empty t289 (ji3)).extract 2 (rdOf ByteArray.empty t289 (ji3)).size) 16).bind fun t294 => (some t294)) else (none)) else (some false))) else ((sprref7_digits.f kj5 (rdOf ByteArray.empty t289 (ji3)) 10).bind fun t295 => (if t295 = true then (some true) else ((sprref7_hex.f (rdOf ByteArray.empty t289 (ji3))).bind fun t296 => (if t296 = true then (if 2 ≤ ((rdOf ByteArray.empty t289 (ji3)).size : Int) then ((sprref7_digits.f kj5 ((rdOf ByteArray.empty t289 (ji3)).extract 2 (rdOf ByteArray.empty t289 (ji3)).size) 16).bind fun t297 => (some t297)) else (none)) else (some false)))))) = some r := by rw [if_neg (show ¬ (false = true) by decide)] at H; exact H
            clear H
            have H := H1
            clear H1
            by_cases c11 : (rdOf ByteArray.empty t289 (ji3)).toList = ([] : List UInt8)
            · rw [if_pos c11] at H
              have c11b0 : ((rdOf ByteArray.empty t289 (ji3)).toList == ([] : List UInt8)) = true := beq_iff_eq.mpr c11
              have c11b1 : ((rdOf ByteArray.empty t289 (ji3)).toList != ([] : List UInt8)) = false := bne_eq_false_iff_eq.mpr c11
              clear c11
              replace H := Option.bind_eq_some_iff.mp H
              obtain ⟨t293, A120, H⟩ := H
              replace H : (if t293 = true then (if 2 ≤ ((rdOf ByteArray.empty t289 (ji3)).size : Int) then ((sprref7_digits.f kj5 ((rdOf ByteArray.empty t289 (ji3)).extract 2 (rdOf ByteArray.empty t289 (ji3)).size) 16).bind fun t294 => (some t294)) else (none)) else (some false)) = some r := H
              have A12 := Aside0.mk A120
              clear A120
              by_cases c13 : t293 = true
              · subst c13
                have H1 : (if 2 ≤ ((rdOf ByteArray.empty t289 (ji3)).size : Int) then ((sprref7_digits.f kj5 ((rdOf ByteArray.empty t289 (ji3)).extract 2 (rdOf ByteArray.empty t289 (ji3)).size) 16).bind fun t294 => (some t294)) else (none)) = some r := by rw [if_pos rfl] at H; exact H
                clear H
                have H := H1
                clear H1
                by_cases c14 : 2 ≤ ((rdOf ByteArray.empty t289 (ji3)).size : Int)
                · rw [if_pos c14] at H
                  have c14b0 := eq_true c14
                  have c14b1 : decide (2 ≤ ((rdOf ByteArray.empty t289 (ji3)).size : Int)) = true := decide_eq_true c14
                  clear c14
                  replace H := Option.bind_eq_some_iff.mp H
                  obtain ⟨t294, A150, H⟩ := H
                  replace H : (some t294) = some r := H
                  have A15 := Aside0.mk A150
                  clear A150
                  obtain rfl := Option.some.inj H
                  go_wp2_with (first | (go_at_call 32; (with_reducible refine (sprref7_hex.calls (rdOf ByteArray.empty t289 (ji3)) true _ A12.out).mono ?_); rintro e w' ⟨rfl, ⟨nd, rfl⟩⟩) | (go_at_call 31; (with_reducible refine (sprref7_digits.calls kj5 ((rdOf ByteArray.empty t289 (ji3)).extract 2 (rdOf ByteArray.empty t289 (ji3)).size) 16 t294 _ A15.out).mono ?_); rintro e w' ⟨rfl, ⟨nd, rfl⟩⟩))
                  go_ret
                  exact ⟨by first | rfl | (simp [errW_none, errW_some] <;> rfl) | (simp only [← hji3]; first | rfl | (simp [errW_none, errW_some] <;> rfl)) | (simp [*, errW_none, errW_some] <;> rfl), by repeat (first | (with_reducible first | exact HB.out | apply below_alloc | apply pw_below_drewN | apply below_drew1) | exact HB.out)⟩
                · rw [if_neg c14] at H
                  exact absurd H (by simp)
              · replace c13 := Bool.eq_false_iff.mpr c13
                subst c13
                have H1 : (some false) = some r := by rw [if_neg (show ¬ (false = true) by decide)] at H; exact H
                clear H
                have H := H1
                clear H1
                obtain rfl := Option.some.inj H
                go_wp2_with (first | (go_at_call 32; (with_reducible refine (sprref7_hex.calls (rdOf ByteArray.empty t289 (ji3)) false _ A12.out).mono ?_); rintro e w' ⟨rfl, ⟨nd, rfl⟩⟩))
                go_ret
                exact ⟨by first | rfl | (simp [errW_none, errW_some] <;> rfl) | (simp only [← hji3]; first | rfl | (simp [errW_none, errW_some] <;> rfl)) | (simp [*, errW_none, errW_some] <;> rfl), by repeat (first | (with_reducible first | exact HB.out | apply below_alloc | apply pw_below_drewN | apply below_drew1) | exact HB.out)⟩
            · rw [if_neg c11] at H
              have c11b0 : ((rdOf ByteArray.empty t289 (ji3)).toList == ([] : List UInt8)) = false := beq_eq_false_iff_ne.mpr c11
              have c11b1 : ((rdOf ByteArray.empty t289 (ji3)).toList != ([] : List UInt8)) = true := bne_iff_ne.mpr c11
              replace H := Option.bind_eq_some_iff.mp H
              obtain ⟨t295, A160, H⟩ := H
              replace H : (if t295 = true then (some true) else ((sprref7_hex.f (rdOf ByteArray.empty t289 (ji3))).bind fun t296 => (if t296 = true then (if 2 ≤ ((rdOf ByteArray.empty t289 (ji3)).size : Int) then ((sprref7_digits.f kj5 ((rdOf ByteArray.empty t289 (ji3)).extract 2 (rdOf ByteArray.empty t289 (ji3)).size) 16).bind fun t297 => (some t297)) else (none)) else (some false)))) = some r := H
              have A16 := Aside0.mk A160
              clear A160
              by_cases c17 : t295 = true
              · subst c17
                have H1 : (some true) = some r := by rw [if_pos rfl] at H; exact H
                clear H
                have H := H1
                clear H1
                obtain rfl := Option.some.inj H
                go_wp2_with (first | (go_at_call 31; (with_reducible refine (sprref7_digits.calls kj5 (rdOf ByteArray.empty t289 (ji3)) 10 true _ A16.out).mono ?_); rintro e w' ⟨rfl, ⟨nd, rfl⟩⟩))
                go_ret
                exact ⟨by first | rfl | (simp [errW_none, errW_some] <;> rfl) | (simp only [← hji3]; first | rfl | (simp [errW_none, errW_some] <;> rfl)) | (simp [*, errW_none, errW_some] <;> rfl), by repeat (first | (with_reducible first | exact HB.out | apply below_alloc | apply pw_below_drewN | apply below_drew1) | exact HB.out)⟩
              · replace c17 := Bool.eq_false_iff.mpr c17
                subst c17
                have H1 : ((sprref7_hex.f (rdOf ByteArray.empty t289 (ji3))).bind fun t296 => (if t296 = true then (if 2 ≤ ((rdOf ByteArray.empty t289 (ji3)).size : Int) then ((sprref7_digits.f kj5 ((rdOf ByteArray.empty t289 (ji3)).extract 2 (rdOf ByteArray.empty t289 (ji3)).size) 16).bind fun t297 => (some t297)) else (none)) else (some false))) = some r := by rw [if_neg (show ¬ (false = true) by decide)] at H; exact H
                clear H
                have H := H1
                clear H1
                replace H := Option.bind_eq_some_iff.mp H
                obtain ⟨t296, A180, H⟩ := H
                replace H : (if t296 = true then (if 2 ≤ ((rdOf ByteArray.empty t289 (ji3)).size : Int) then ((sprref7_digits.f kj5 ((rdOf ByteArray.empty t289 (ji3)).extract 2 (rdOf ByteArray.empty t289 (ji3)).size) 16).bind fun t297 => (some t297)) else (none)) else (some false)) = some r := H
                have A18 := Aside0.mk A180
                clear A180
                by_cases c19 : t296 = true
                · subst c19
                  have H1 : (if 2 ≤ ((rdOf ByteArray.empty t289 (ji3)).size : Int) then ((sprref7_digits.f kj5 ((rdOf ByteArray.empty t289 (ji3)).extract 2 (rdOf ByteArray.empty t289 (ji3)).size) 16).bind fun t297 => (some t297)) else (none)) = some r := by rw [if_pos rfl] at H; exact H
                  clear H
                  have H := H1
                  clear H1
                  by_cases c20 : 2 ≤ ((rdOf ByteArray.empty t289 (ji3)).size : Int)
                  · rw [if_pos c20] at H
                    have c20b0 := eq_true c20
                    have c20b1 : decide (2 ≤ ((rdOf ByteArray.empty t289 (ji3)).size : Int)) = true := decide_eq_true c20
                    clear c20
                    replace H := Option.bind_eq_some_iff.mp H
                    obtain ⟨t297, A210, H⟩ := H
                    replace H : (some t297) = some r := H
                    have A21 := Aside0.mk A210
                    clear A210
                    obtain rfl := Option.some.inj H
                    go_wp2_with (first | (go_at_call 31; (with_reducible refine (sprref7_digits.calls kj5 (rdOf ByteArray.empty t289 (ji3)) 10 false _ A16.out).mono ?_); rintro e w' ⟨rfl, ⟨nd, rfl⟩⟩) | (go_at_call 32; (with_reducible refine (sprref7_hex.calls (rdOf ByteArray.empty t289 (ji3)) true _ A18.out).mono ?_); rintro e w' ⟨rfl, ⟨nd, rfl⟩⟩) | (go_at_call 31; (with_reducible refine (sprref7_digits.calls kj5 ((rdOf ByteArray.empty t289 (ji3)).extract 2 (rdOf ByteArray.empty t289 (ji3)).size) 16 t297 _ A21.out).mono ?_); rintro e w' ⟨rfl, ⟨nd, rfl⟩⟩))
                    go_ret
                    exact ⟨by first | rfl | (simp [errW_none, errW_some] <;> rfl) | (simp only [← hji3]; first | rfl | (simp [errW_none, errW_some] <;> rfl)) | (simp [*, errW_none, errW_some] <;> rfl), by repeat (first | (with_reducible first | exact HB.out | apply below_alloc | apply pw_below_drewN | apply below_drew1) | exact HB.out)⟩
                  · rw [if_neg c20] at H
                    exact absurd H (by simp)
                · replace c19 := Bool.eq_false_iff.mpr c19
                  subst c19
                  have H1 : (some false) = some r := by rw [if_neg (show ¬ (false = true) by decide)] at H; exact H
                  clear H
                  have H := H1
                  clear H1
                  obtain rfl := Option.some.inj H
                  go_wp2_with (first | (go_at_call 31; (with_reducible refine (sprref7_digits.calls kj5 (rdOf ByteArray.empty t289 (ji3)) 10 false _ A16.out).mono ?_); rintro e w' ⟨rfl, ⟨nd, rfl⟩⟩) | (go_at_call 32; (with_reducible refine (sprref7_hex.calls (rdOf ByteArray.empty t289 (ji3)) false _ A18.out).mono ?_); rintro e w' ⟨rfl, ⟨nd, rfl⟩⟩))
                  go_ret
                  exact ⟨by first | rfl | (simp [errW_none, errW_some] <;> rfl) | (simp only [← hji3]; first | rfl | (simp [errW_none, errW_some] <;> rfl)) | (simp [*, errW_none, errW_some] <;> rfl), by repeat (first | (with_reducible first | exact HB.out | apply below_alloc | apply pw_below_drewN | apply below_drew1) | exact HB.out)⟩
    · rw [if_neg c5] at H
      exact absurd H (by simp)
  · rw [if_neg c4] at H
    exact absurd H (by simp)

/-! ### sprlaw7_IpTexts: function 5 -/
def sprlaw7_IpTexts.f (k : Nat) (s : ByteArray) : Option Bool :=
  if s.size ≤ 5000 then ((ip_Parse4.f k s).bind fun a => (sprref7_Parse4.f k s).bind fun b => (ip_Parse6.g k s).bind fun p => (sprref7_Parse6.g k s).bind fun q => (ip_Ends.f k s).bind fun x => (sprref7_Ends.f k s).bind fun y =>
    if a = b ∧ p = q ∧ x = y ∧ p.1.length = 8 then some true else none) else some true
theorem sprlaw7_IpTexts.mono (s : ByteArray) (k : Nat) : LeO (sprlaw7_IpTexts.f k s) (sprlaw7_IpTexts.f (k + 1) s) := by
  unfold sprlaw7_IpTexts.f
  exact LeO.ite (LeO.bind (ip_Parse4.mono _ k) fun _ => LeO.bind (sprref7_Parse4.mono _ k) fun _ => LeO.bind (ip_Parse6.gmono _ k) fun _ => LeO.bind (sprref7_Parse6.gmono _ k) fun _ => LeO.bind (ip_Ends.mono _ k) fun _ => LeO.bind (sprref7_Ends.mono _ k) fun _ => LeO.refl _) (LeO.refl _)
set_option maxHeartbeats 4000000 in
set_option maxRecDepth 100000 in
theorem sprlaw7_IpTexts.walk (k : Nat) (s : ByteArray) (a1 a2 : Int) (p : List Int) (p2 : Int) (x : Bool) (w : World) (hT : Own.ipW w) (hs : s.size ≤ 5000) (ha : ip_Parse4.f k s = some (a1, a2)) (hb : sprref7_Parse4.f k s = some (a1, a2)) (hp : ip_Parse6.g k s = some (p, p2)) (hq : sprref7_Parse6.g k s = some (p, p2)) (hx : ip_Ends.f k s = some x) (hy : sprref7_Ends.f k s = some x) (h8 : p.length = 8) :
    Calls Tryd.prog 5 #[.string s] w fun e w' => e = .returned (.bool true) ∧ Below w.heap.size w w' := by
  have HT := Aside0.mk hT
  have hu := Tryd.underlying23
  have hi0 : (Tryd.prog.info? 23).map (·.size) = some (arrV zero8).size := by kernel_rfl
  have T0 := Aside0.mk trivial
  have HB0 : Aside0 (Below w.heap.size w w) := ⟨Below.refl _ _⟩
  have hu2 := Tryd.underlying22
  have heq := fun w' => arr_eq (P := Tryd.prog) (t := 23) (e := 22) (n := 8) Tryd.underlying23 Tryd.underlying22 (fun _ => by kernel_rfl) (fun _ => by kernel_rfl) 9998 p p h8 h8 w'
  have hpp : decide (p = p) = true := decide_eq_true rfl
  rw [hpp] at heq
  clear hpp
  have hi8 : Aside0 ((Tryd.prog.info? 23).map (·.size) = some (arrV p).size) := ⟨by rw [arr_size, h8]; kernel_rfl⟩
  have hs8 : Aside0 ((arrV zero8).size = (arrV p).size) := ⟨by rw [arr_size, arr_size, h8]; rfl⟩
  have H8 := Aside0.mk h8
  clear h8
  have q0 : decide ((5000 : Int) < (s.size : Int)) = false := decide_eq_false (by omega)
  go_enter Tryd.func5, Tryd.ntmps5
  go_wp2_with (first | (clear T0; go_at_call 9; (with_reducible refine (sprlaw7_first.calls 0 true _ rfl (Own.ipW_below HT.out HB0.out)).mono ?_); rintro e w1 ⟨rfl, hb⟩; have HB1 := Aside0.mk (HB0.out.trans (hb.mono HB0.out.size)); clear hb HB0; have T1 := Aside0.mk trivial) | (clear T1; go_at_call 13; (with_reducible refine (ip_Parse4.calls k s a1 a2 _ ha).mono ?_); rintro e w2 ⟨rfl, hb⟩; have HB2 := Aside0.mk (HB1.out.trans (hb.mono HB1.out.size)); clear hb HB1; have T2 := Aside0.mk trivial) | (clear T2; go_at_call 14; (with_reducible refine (sprref7_Parse4.calls k s a1 a2 _ hb).mono ?_); rintro e w3 ⟨rfl, hb⟩; have HB3 := Aside0.mk (HB2.out.trans (hb.mono HB2.out.size)); clear hb HB2; have T3 := Aside0.mk trivial) | (clear T3; go_at_call 12; (with_reducible refine (ip_Parse6.gcalls k s p p2 _ hp (Own.ipW_below HT.out HB3.out)).mono ?_); rintro e w4 ⟨rfl, hb⟩; have HB4 := Aside0.mk (HB3.out.trans (hb.mono HB3.out.size)); clear hb HB3; have T4 := Aside0.mk trivial) | (clear T4; (with_reducible refine gate_store (t := 23) (p := 7) rfl ?_); refine wpList_store_row rfl 23 (.tmp 7) (.tmp 30) rfl w4.heap.size (arrV p) rfl rfl 23 (arrV zero8) (blk_new _ _) hi8.out hs8.out (arr_one _) ?_; rw [show (w4.alloc (.cells #[Value.int IntKind.u16 0, Value.int IntKind.u16 0, Value.int IntKind.u16 0, Value.int IntKind.u16 0, Value.int IntKind.u16 0, Value.int IntKind.u16 0, Value.int IntKind.u16 0, Value.int IntKind.u16 0] 23)).setRow w4.heap.size (arrV p) = w4.alloc (.cells (arrV p) 23) from Own.alloc_setRow _ _ _ _]; obtain ⟨w5, hw⟩ : ∃ v, v = w4.alloc (.cells (arrV p) 23) := ⟨_, rfl⟩; rw [← hw]; have HB5 := Aside0.mk (hw ▸ below_alloc HB4.out _ : Below w.heap.size w w5); have HRp_5 := Aside0.mk (hw ▸ blk_new w4 _ : w5.heap[w4.heap.size]? = some (.cells (arrV p) 23 (0, 0))); clear hw HB4; have T5 := Aside0.mk trivial) | (clear T5; go_at_call 15; (with_reducible refine (sprref7_Parse6.gcalls k s p p2 _ hq).mono ?_); rintro e w6 ⟨rfl, hb⟩; have HB6 := Aside0.mk (HB5.out.trans (hb.mono HB5.out.size)); have HRp_6 := Aside0.mk (blk_below HRp_5.out hb); clear hb HB5 HRp_5; have T6 := Aside0.mk trivial) | (clear T6; (with_reducible refine gate_store (t := 23) (p := 9) rfl ?_); refine wpList_store_row rfl 23 (.tmp 9) (.tmp 35) rfl w6.heap.size (arrV p) rfl rfl 23 (arrV zero8) (blk_new _ _) hi8.out hs8.out (arr_one _) ?_; rw [show (w6.alloc (.cells #[Value.int IntKind.u16 0, Value.int IntKind.u16 0, Value.int IntKind.u16 0, Value.int IntKind.u16 0, Value.int IntKind.u16 0, Value.int IntKind.u16 0, Value.int IntKind.u16 0, Value.int IntKind.u16 0] 23)).setRow w6.heap.size (arrV p) = w6.alloc (.cells (arrV p) 23) from Own.alloc_setRow _ _ _ _]; obtain ⟨w7, hw⟩ : ∃ v, v = w6.alloc (.cells (arrV p) 23) := ⟨_, rfl⟩; rw [← hw]; have HB7 := Aside0.mk (hw ▸ below_alloc HB6.out _ : Below w.heap.size w w7); have HRp_7 := Aside0.mk (hw ▸ blk_alloc HRp_6.out _ : w7.heap[w4.heap.size]? = some (.cells (arrV p) 23 (0, 0))); have HRq_7 := Aside0.mk (hw ▸ blk_new w6 _ : w7.heap[w6.heap.size]? = some (.cells (arrV p) 23 (0, 0))); clear hw HB6 HRp_6; have T7 := Aside0.mk trivial) | (clear T7; go_at_call 9; (with_reducible refine (sprlaw7_first.calls 0 true _ rfl (Own.ipW_below HT.out HB7.out)).mono ?_); rintro e w8 ⟨rfl, hb⟩; have HB8 := Aside0.mk (HB7.out.trans (hb.mono HB7.out.size)); have HRp_8 := Aside0.mk (blk_below HRp_7.out hb); have HRq_8 := Aside0.mk (blk_below HRq_7.out hb); clear hb HB7 HRp_7 HRq_7; have T8 := Aside0.mk trivial) | (clear T8; go_at_call 16; (with_reducible refine (ip_Ends.calls k s x _ hx).mono ?_); rintro e w9 ⟨rfl, hb⟩; have HB9 := Aside0.mk (HB8.out.trans (hb.mono HB8.out.size)); have HRp_9 := Aside0.mk (blk_below HRp_8.out hb); have HRq_9 := Aside0.mk (blk_below HRq_8.out hb); clear hb HB8 HRp_8 HRq_8; have T9 := Aside0.mk trivial) | (clear T9; go_at_call 17; (with_reducible refine (sprref7_Ends.calls k s x _ hy).mono ?_); rintro e w10 ⟨rfl, hb⟩; have HB10 := Aside0.mk (HB9.out.trans (hb.mono HB9.out.size)); have HRp_10 := Aside0.mk (blk_below HRp_9.out hb); have HRq_10 := Aside0.mk (blk_below HRq_9.out hb); clear hb HB9 HRp_9 HRq_9; have T10 := Aside0.mk trivial) | ((with_reducible refine gate_dst (N := 56) rfl ?_); refine gate_guard (by rfl) ?_; refine wpList_load_row rfl 23 (.tmp 7) rfl w4.heap.size rfl 23 (arrV p) (0, 0) _ HRp_10.out hu rfl hi8.out ?_) | ((with_reducible refine gate_dst (N := 57) rfl ?_); refine gate_guard (by rfl) ?_; refine wpList_load_row rfl 23 (.tmp 9) rfl w6.heap.size rfl 23 (arrV p) (0, 0) _ HRq_10.out hu rfl hi8.out ?_))
  go_ret
  exact ⟨rfl, HB10.out⟩
set_option maxHeartbeats 4000000 in
set_option maxRecDepth 100000 in
theorem sprlaw7_IpTexts.long (s : ByteArray) (w : World) (hT : Own.ipW w) (hs : ¬ s.size ≤ 5000) :
    Calls Tryd.prog 5 #[.string s] w fun e w' => e = .returned (.bool true) ∧ Below w.heap.size w w' := by
  have HT := Aside0.mk hT
  have hu := Tryd.underlying23
  have hi0 : (Tryd.prog.info? 23).map (·.size) = some (arrV zero8).size := by kernel_rfl
  have T0 := Aside0.mk trivial
  have HB0 : Aside0 (Below w.heap.size w w) := ⟨Below.refl _ _⟩
  have hu2 := Tryd.underlying22
  have q0 : decide ((5000 : Int) < (s.size : Int)) = true := decide_eq_true (by omega)
  go_enter Tryd.func5, Tryd.ntmps5
  go_wp2_with (first | (clear T0; go_at_call 9; (with_reducible refine (sprlaw7_first.calls 0 true _ rfl (Own.ipW_below HT.out HB0.out)).mono ?_); rintro e w1 ⟨rfl, hb⟩; have HB1 := Aside0.mk (HB0.out.trans (hb.mono HB0.out.size)); clear hb HB0; have T1 := Aside0.mk trivial) | (clear T1; go_at_call 9; (with_reducible refine (sprlaw7_first.calls 0 true _ rfl (Own.ipW_below HT.out HB1.out)).mono ?_); rintro e w2 ⟨rfl, hb⟩; have HB2 := Aside0.mk (HB1.out.trans (hb.mono HB1.out.size)); clear hb HB1; have T2 := Aside0.mk trivial))
  go_ret
  exact ⟨rfl, HB2.out⟩
theorem sprlaw7_IpTexts.calls (k : Nat) (s : ByteArray) (r : Bool) (w : World) (h : sprlaw7_IpTexts.f k s = some r) (hT : Aside0 (r = true)) (hT0 : Own.ipW w) :
    Calls Tryd.prog 5 #[.string s] w fun e w' => e = .returned (.bool r) ∧ Below w.heap.size w w' := by
  unfold sprlaw7_IpTexts.f at h
  split at h
  · rename_i hs
    obtain ⟨a, ha, h_1⟩ := Option.bind_eq_some_iff.1 h
    obtain ⟨b, hb, h_2⟩ := Option.bind_eq_some_iff.1 h_1
    obtain ⟨p, hp, h_3⟩ := Option.bind_eq_some_iff.1 h_2
    obtain ⟨q, hq, h_4⟩ := Option.bind_eq_some_iff.1 h_3
    obtain ⟨x, hx, h_5⟩ := Option.bind_eq_some_iff.1 h_4
    obtain ⟨y, hy, h_6⟩ := Option.bind_eq_some_iff.1 h_5
    split at h_6
    · rename_i hc
      obtain ⟨rfl, rfl, rfl, h8⟩ := hc
      obtain rfl := Option.some.inj h_6
      obtain ⟨a1, a2⟩ := a
      obtain ⟨p1, p2⟩ := p
      exact sprlaw7_IpTexts.walk k s a1 a2 p1 p2 x w hT0 hs ha hb hp hq hx hy h8
    · cases h_6
  · rename_i hs
    obtain rfl := Option.some.inj h
    exact sprlaw7_IpTexts.long s w hT0 hs


end Go.Proofs.YtldkhokpedfhdaaDoor.Q
