-- Written by a program of this session's (wip/xprint.py), out of the seat's translation.
import Derived.Test.YtdikhinmlpihdaaDoorQ0
import Derived.Test.YtdikhinmlpihdaaDoorQ1
namespace Go.Proofs.YtdikhinmlpihdaaDoor.Q
open Go.RowKit Go.Proofs.YtdikhinmlpihdaaDoorW.PrintWords Go.Proofs.YtdikhinmlpihdaaDoorW.PrintLast Go.Proofs.YtdikhinmlpihdaaDoorW.PrintMore
attribute [local go_sem] max2_int min2_int max_two min_two max_three min_three max_four min_four   -- for this text's walks alone
set_option linter.unusedVariables false
set_option linter.unusedSimpArgs false

/-! ### date_date_clock: function 82 -/
def date_date_clock.f (k : Nat) (s0_0 : Int) (s0_1 : Int) (s0_2 : Int) (s0_3 : Int) (s0_4 : Int) (s0_5 : Int) (a1 : ByteArray) : Option (Int × Int × Int × Int × Int × Int) := (strings_Split.f a1 (⟨#[58]⟩ : ByteArray)).bind fun t120 => (if (t120.length : Int) = 3 then (if 0 < (t120.length : Int) then ((date_number.f k (rdOf ByteArray.empty t120 0) 2).bind fun t124 => (if 1 < (t120.length : Int) then ((date_number.f k (rdOf ByteArray.empty t120 1) 2).bind fun t126 => (if 2 < (t120.length : Int) then ((date_number.f k (rdOf ByteArray.empty t120 2) 2).bind fun t128 => (some (s0_0, s0_1, s0_2, t124, t126, t128))) else (none))) else (none))) else (none)) else (some (s0_0, s0_1, s0_2, (-1), (-1), (-1))))
theorem date_date_clock.mono : ∀ a0 a1 a2 a3 a4 a5 a6 k, LeO (date_date_clock.f k a0 a1 a2 a3 a4 a5 a6) (date_date_clock.f (k + 1) a0 a1 a2 a3 a4 a5 a6) := by
  intro a0 a1 a2 a3 a4 a5 a6 k
  unfold date_date_clock.f
  repeat' first
      | (with_reducible exact date_number.mono _ _ _)
      | (with_reducible exact LeO.refl _)
      | (with_reducible exact LeO.none _)
      | (with_reducible refine LeO.ite ?_ ?_)
      | (with_reducible refine LeO.bind ?_ (fun _ => ?_))
      | exact date_number.mono _ _ _
      | exact LeO.none _
      | refine LeO.ite ?_ ?_
      | refine LeO.bind ?_ (fun _ => ?_)
def date_date_clock.T3 : Bool × List (List Nat × List Nat) := (true, [([], []), ([], []), ([], []), ([], []), ([3], [3]), ([4], [4]), ([5], [5]), ([], []), ([7], [7]), ([8], [8]), ([9, 6], [9]), ([], []), ([11], [11]), ([12], [12]), ([13, 10], [13]), ([0, 0, 3, 4, 5, 6, 9, 10, 13, 14], [0]), ([15, 0, 3, 4, 5, 6, 9, 10, 13, 14], [15]), ([16, 6, 14, 0, 3, 4, 5, 6, 9, 10, 13, 14], [6, 16]), ([1, 0, 1, 3, 4, 5, 6, 7, 8, 9, 10, 13, 14, 15, 16, 17], [1]), ([18, 0, 1, 3, 4, 5, 6, 7, 8, 9, 10, 13, 14, 15, 16, 17], [18]), ([19, 10, 17, 0, 1, 3, 4, 5, 6, 7, 8, 9, 10, 13, 14, 15, 16, 17], [10, 19]), ([2, 0, 1, 2, 3, 4, 5, 6, 7, 8, 9, 10, 11, 12, 13, 14, 15, 16, 17, 18, 19, 20], [2]), ([21, 0, 1, 2, 3, 4, 5, 6, 7, 8, 9, 10, 11, 12, 13, 14, 15, 16, 17, 18, 19, 20], [21]), ([22, 14, 20, 0, 1, 2, 3, 4, 5, 6, 7, 8, 9, 10, 11, 12, 13, 14, 15, 16, 17, 18, 19, 20], [14, 22])])
def date_date_clock.B3 : List Nat := [0, 0, 0, 0, 8, 24, 56, 0, 128, 384, 1016, 0, 2048, 6144, 16376, 32761, 65529, 131065, 262139, 524283, 1048571, 2097151, 4194303, 8388607]
theorem date_date_clock.tab3 : rtab .any (opsOf Tryd.f82 3) = date_date_clock.T3 := by kernel_rfl
theorem date_date_clock.bits3 : waitsOk date_date_clock.T3.2 date_date_clock.B3 = true := by kernel_rfl
set_option maxHeartbeats 2000000 in
set_option maxRecDepth 100000 in
theorem date_date_clock.calls (k : Nat) (g : Nat) (s0_0 : Int) (s0_1 : Int) (s0_2 : Int) (s0_3 : Int) (s0_4 : Int) (s0_5 : Int) (a1 : ByteArray) (r1 : Int) (r2 : Int) (r3 : Int) (r4 : Int) (r5 : Int) (r6 : Int) (w0 w : World) (hI : IsS88 w0 w g s0_0 s0_1 s0_2 s0_3 s0_4 s0_5) (hB : Below w0.heap.size w0 w) (h : date_date_clock.f k s0_0 s0_1 s0_2 s0_3 s0_4 s0_5 a1 = some (r1, r2, r3, r4, r5, r6)) :
    Calls Tryd.prog 82 #[.pointer (some ⟨g, 0, none⟩), .string a1] w fun e w' => e = .returned (.tuple #[]) ∧ IsS88 w0 w' g r1 r2 r3 r4 r5 r6 ∧ Below w0.heap.size w0 w' ∧ KeepBut w w' g none := by
  have HI0 := Aside0.mk hI
  have HK := Aside0.mk (KeepBut.refl w g none)
  have HL := Aside0.mk hB.size
  clear hI
  have HW0 := Aside0.mk hB.size
  have HB := Aside0.mk hB
  clear hB
  have H : ((strings_Split.f a1 (⟨#[58]⟩ : ByteArray)).bind fun t120 => (if (t120.length : Int) = 3 then (if 0 < (t120.length : Int) then ((date_number.f k (rdOf ByteArray.empty t120 0) 2).bind fun t124 => (if 1 < (t120.length : Int) then ((date_number.f k (rdOf ByteArray.empty t120 1) 2).bind fun t126 => (if 2 < (t120.length : Int) then ((date_number.f k (rdOf ByteArray.empty t120 2) 2).bind fun t128 => (some (s0_0, s0_1, s0_2, t124, t126, t128))) else (none))) else (none))) else (none)) else (some (s0_0, s0_1, s0_2, (-1), (-1), (-1))))) = some (r1, r2, r3, r4, r5, r6) := h
  clear h
  replace H := Option.bind_eq_some_iff.mp H
  obtain ⟨t120, A30, H⟩ := H
  replace H : (if (t120.length : Int) = 3 then (if 0 < (t120.length : Int) then ((date_number.f k (rdOf ByteArray.empty t120 0) 2).bind fun t124 => (if 1 < (t120.length : Int) then ((date_number.f k (rdOf ByteArray.empty t120 1) 2).bind fun t126 => (if 2 < (t120.length : Int) then ((date_number.f k (rdOf ByteArray.empty t120 2) 2).bind fun t128 => (some (s0_0, s0_1, s0_2, t124, t126, t128))) else (none))) else (none))) else (none)) else (some (s0_0, s0_1, s0_2, (-1), (-1), (-1)))) = some (r1, r2, r3, r4, r5, r6) := H
  have A3 := Aside0.mk A30
  clear A30
  by_cases c4 : (t120.length : Int) = 3
  · rw [if_pos c4] at H
    have c4b0 : ((t120.length : Int) == 3) = true := beq_iff_eq.mpr c4
    have c4b1 : ((t120.length : Int) != 3) = false := bne_eq_false_iff_eq.mpr c4
    clear c4
    by_cases c5 : 0 < (t120.length : Int)
    · rw [if_pos c5] at H
      have c5b0 : decide (0 < (t120.length : Int)) = true := decide_eq_true c5
      have c5b1 : decide (0 < t120.length) = true := decide_eq_true (by omega)
      clear c5
      replace H := Option.bind_eq_some_iff.mp H
      obtain ⟨t124, A60, H⟩ := H
      replace H : (if 1 < (t120.length : Int) then ((date_number.f k (rdOf ByteArray.empty t120 1) 2).bind fun t126 => (if 2 < (t120.length : Int) then ((date_number.f k (rdOf ByteArray.empty t120 2) 2).bind fun t128 => (some (s0_0, s0_1, s0_2, t124, t126, t128))) else (none))) else (none)) = some (r1, r2, r3, r4, r5, r6) := H
      have A6 := Aside0.mk A60
      clear A60
      by_cases c7 : 1 < (t120.length : Int)
      · rw [if_pos c7] at H
        have c7b0 : decide (1 < (t120.length : Int)) = true := decide_eq_true c7
        have c7b1 : decide (1 < t120.length) = true := decide_eq_true (by omega)
        clear c7
        replace H := Option.bind_eq_some_iff.mp H
        obtain ⟨t126, A80, H⟩ := H
        replace H : (if 2 < (t120.length : Int) then ((date_number.f k (rdOf ByteArray.empty t120 2) 2).bind fun t128 => (some (s0_0, s0_1, s0_2, t124, t126, t128))) else (none)) = some (r1, r2, r3, r4, r5, r6) := H
        have A8 := Aside0.mk A80
        clear A80
        by_cases c9 : 2 < (t120.length : Int)
        · rw [if_pos c9] at H
          have c9b0 : decide (2 < (t120.length : Int)) = true := decide_eq_true c9
          have c9b1 : decide (2 < t120.length) = true := decide_eq_true (by omega)
          clear c9
          replace H := Option.bind_eq_some_iff.mp H
          obtain ⟨t128, A100, H⟩ := H
          replace H : (some (s0_0, s0_1, s0_2, t124, t126, t128)) = some (r1, r2, r3, r4, r5, r6) := H
          have A10 := Aside0.mk A100
          clear A100
          simp only [Option.some.injEq, Prod.mk.injEq] at H
          obtain ⟨rfl, rfl, rfl, rfl, rfl, rfl⟩ := H
          obtain ⟨HGz11, hgz11⟩ := HI0.out
          have hcz11_0 := cellS88_0 HGz11
          have hcz11_1 := cellS88_1 HGz11
          have hcz11_2 := cellS88_2 HGz11
          have hcz11_3 := cellS88_3 HGz11
          have hcz11_4 := cellS88_4 HGz11
          have hcz11_5 := cellS88_5 HGz11
          have hfz11_0 := blk_frozen HGz11 0
          have hfz11_1 := blk_frozen HGz11 1
          have hfz11_2 := blk_frozen HGz11 2
          have hfz11_3 := blk_frozen HGz11 3
          have hfz11_4 := blk_frozen HGz11 4
          have hfz11_5 := blk_frozen HGz11 5
          clear HGz11 hgz11
          (try (have e_c4b0 := c4b0; simp only [c5b0, c7b0, c9b0] at e_c4b0; simp at e_c4b0))
          go_enter Tryd.func82, Tryd.ntmps82
          try go_wp2_with (first | ((with_reducible refine gate_callee (f := 58) rfl ?_); refine goesL_ (some 15) rfl rfl Tryd.func58 (by kernel_rfl) rfl #[.string a1, .string (⟨#[58]⟩ : ByteArray)] rfl (by (try simp only [List.map_toArray, List.map_cons, List.map_nil]); first | done | rfl | (simp only [List.length_drop, List.length_take]; rfl)) ?_; (with_reducible refine (strings_Split.calls a1 (⟨#[58]⟩ : ByteArray) t120 _ A3.out).mono ?_); rintro e w12 ⟨v121, rfl, ho0, hb⟩; refine ⟨_, rfl, ?_⟩; have n0_ := Aside0.mk (Kd.R_lower ho0 (keep_size (w := w) (g := g) (row := none) (by repeat (first | (with_reducible first | exact HK.out | apply KeepBut.set_ | apply keep_drewN | apply keep_drew | apply keep_alloc) | exact HK.out)))); have n1_ := Aside0.mk (IsS88.below (show IsS88 w0 (((w.setCell ⟨g, 3, none⟩ (.int .i64 (-1))).setCell ⟨g, 4, none⟩ (.int .i64 (-1))).setCell ⟨g, 5, none⟩ (.int .i64 (-1))) g s0_0 s0_1 s0_2 (-1) (-1) (-1) from by repeat (first | (with_reducible first | exact HI0.out | apply IsS88.alloc | apply IsS88.drewN | apply IsS88.drew | apply IsS88.set_0 | apply IsS88.set_1 | apply IsS88.set_2 | apply IsS88.set_3 | apply IsS88.set_4 | apply IsS88.set_5) | exact HI0.out)) hb); have n2_ := Aside0.mk (KeepBut.trans (by repeat (first | (with_reducible first | exact HK.out | apply KeepBut.set_ | apply keep_drewN | apply keep_drew | apply keep_alloc) | exact HK.out)) (KeepBut.of_below hb g none) (.inl rfl)); have n3_ := Aside0.mk (below_step (by repeat (first | (with_reducible first | exact HB.out | apply below_alloc | apply pw_below_drewN | apply below_drew1 | refine below_set ?_ (IsS88.ge HI0.out)) | exact HB.out)) hb); clear HI0; clear HK; clear HB; have HO122 := n0_; have HI0 := n1_; have HK := n2_; have HB := n3_; clear n0_ n1_ n2_ n3_; (try clear hb); (try clear hb2); (try clear hk); (try clear hi); (try clear ho0); obtain ⟨Ao13, co13, eo13⟩ := Kd.R_slice HO122.out; subst eo13))
          have n0_ := Aside0.mk (Kd.R_drew HO122.out)
          have n1_ := Aside0.mk (IsS88.drew HI0.out)
          have n2_ := Aside0.mk (keep_drew HK.out)
          have n3_ := Aside0.mk (below_drew1 HB.out)
          clear HO122
          clear HI0
          clear HK
          clear HB
          have HO122 := n0_
          have HI0 := n1_
          have HK := n2_
          have HB := n3_
          clear n0_ n1_ n2_ n3_
          have p123 : 0 ≤ (0 : Int) := (by omega)
          have q123 : 0 < (t120.length : Int) := of_decide_eq_true (by first | (with_reducible assumption) | assumption)
          obtain ⟨ad123, e123, hx123_0⟩ := Kd.at_string (Kd.R_reads' HO122.out).2.2 0 p123 q123
          cases e123
          have qi123 : (0 < t120.length) = True := eq_true (by omega)
          (try rw [show ((0 : Int)).toNat = 0 from rfl] at hx123_0)
          (try rw [Addr.add_zero'] at hx123_0)
          replace p123 := eq_true p123
          replace q123 := eq_true q123
          have p125 : 0 ≤ (1 : Int) := (by omega)
          have q125 : 1 < (t120.length : Int) := of_decide_eq_true (by first | (with_reducible assumption) | assumption)
          obtain ⟨ad125, e125, hx125_0⟩ := Kd.at_string (Kd.R_reads' HO122.out).2.2 1 p125 q125
          obtain rfl : ad123 = ad125 := (by injection e125)
          (try simp only [show (1 : Int).toNat = 1 from rfl, Nat.reduceMul, Nat.reduceEqDiff, Go.Addr.add, ↓reduceIte] at hx125_0)
          have qi125 : (1 < t120.length) = True := eq_true (by omega)
          (try rw [show ((1 : Int)).toNat = 1 from rfl] at hx125_0)
          replace p125 := eq_true p125
          replace q125 := eq_true q125
          have p127 : 0 ≤ (2 : Int) := (by omega)
          have q127 : 2 < (t120.length : Int) := of_decide_eq_true (by first | (with_reducible assumption) | assumption)
          obtain ⟨ad127, e127, hx127_0⟩ := Kd.at_string (Kd.R_reads' HO122.out).2.2 2 p127 q127
          obtain rfl : ad123 = ad127 := (by injection e127)
          (try simp only [show (2 : Int).toNat = 2 from rfl, Nat.reduceMul, Nat.reduceEqDiff, Go.Addr.add, ↓reduceIte] at hx127_0)
          have qi127 : (2 < t120.length) = True := eq_true (by omega)
          (try rw [show ((2 : Int)).toNat = 2 from rfl] at hx127_0)
          replace p127 := eq_true p127
          replace q127 := eq_true q127
          refine start_ (n := 24) (S := fun w' => w'.cell? ad123 = some (.string (rdOf ByteArray.empty t120 0)) ∧ w'.cell? ⟨ad123.block, ad123.off + 1, none⟩ = some (.string (rdOf ByteArray.empty t120 1)) ∧ w'.cell? ⟨ad123.block, ad123.off + 2, none⟩ = some (.string (rdOf ByteArray.empty t120 2))) (ds := []) #[false, false, false, false, false, false, false, false, false, false, false, false, false, false, false, false, false, false, false, false, false, false, false, false] (by kernel_rfl) rfl rfl ⟨hx123_0, hx125_0, hx127_0⟩ (fun hHeld => ?_); refine with_tabW date_date_clock.tab3 date_date_clock.bits3 (fun HT_ HW_ => ?_)
          generalize w12.drew = w14 at HO122 HI0 HK HB hx123_0 hx125_0 hx127_0 hHeld ⊢
          refine pure_ (i := 0) (N := some 19) (v := ?_) (a' := ?_) #[true, false, false, false, false, false, false, false, false, false, false, false, false, false, false, false, false, false, false, false, false, false, false, false] rfl rfl (any_of HT_.out (by kernel_rfl)) (fun _ _ _ h => h) (Or.inl ⟨by rfl, ?_⟩) ?_ ?_
          rotate_left
          · intro w'
            go_simp
            with_reducible rfl
          rotate_left
          · simp only [Act.put, List.setIfInBounds_toArray, List.set_cons_zero, List.set_cons_succ, i64_w, i32_w]
            rfl
          refine pure_ (i := 1) (N := some 20) (v := ?_) (a' := ?_) #[true, true, false, false, false, false, false, false, false, false, false, false, false, false, false, false, false, false, false, false, false, false, false, false] rfl rfl (any_of HT_.out (by kernel_rfl)) (fun _ _ _ h => h) (Or.inl ⟨by rfl, ?_⟩) ?_ ?_
          rotate_left
          · intro w'
            go_simp
            with_reducible rfl
          rotate_left
          · simp only [Act.put, List.setIfInBounds_toArray, List.set_cons_zero, List.set_cons_succ, i64_w, i32_w]
            rfl
          refine pure_ (i := 2) (N := some 21) (v := ?_) (a' := ?_) #[true, true, true, false, false, false, false, false, false, false, false, false, false, false, false, false, false, false, false, false, false, false, false, false] rfl rfl (any_of HT_.out (by kernel_rfl)) (fun _ _ _ h => h) (Or.inl ⟨by rfl, ?_⟩) ?_ ?_
          rotate_left
          · intro w'
            go_simp
            with_reducible rfl
          rotate_left
          · simp only [Act.put, List.setIfInBounds_toArray, List.set_cons_zero, List.set_cons_succ, i64_w, i32_w]
            rfl
          refine pure_ (i := 3) (N := some 22) (v := ?_) (a' := ?_) #[true, true, true, true, false, false, false, false, false, false, false, false, false, false, false, false, false, false, false, false, false, false, false, false] rfl rfl (any_of HT_.out (by kernel_rfl)) (fun _ _ _ h => h) (Or.inl ⟨by rfl, ?_⟩) ?_ ?_
          rotate_left
          · intro w'
            go_simp
            with_reducible rfl
          rotate_left
          · simp only [Act.put, List.setIfInBounds_toArray, List.set_cons_zero, List.set_cons_succ, i64_w, i32_w]
            rfl
          refine pure_ (i := 4) (N := some 23) (v := ?_) (a' := ?_) #[true, true, true, true, true, false, false, false, false, false, false, false, false, false, false, false, false, false, false, false, false, false, false, false] rfl rfl (any_of HT_.out (by kernel_rfl)) (fun _ _ _ h => h) (Or.inl ⟨by rfl, ?_⟩) ?_ ?_
          rotate_left
          · intro w'
            go_simp
            with_reducible rfl
          rotate_left
          · simp only [Act.put, List.setIfInBounds_toArray, List.set_cons_zero, List.set_cons_succ, i64_w, i32_w]
            rfl
          refine pure_ (i := 7) (N := some 26) (v := ?_) (a' := ?_) #[true, true, true, true, true, false, false, true, false, false, false, false, false, false, false, false, false, false, false, false, false, false, false, false] rfl rfl (any_of HT_.out (by kernel_rfl)) (fun _ _ _ h => h) (Or.inl ⟨by rfl, ?_⟩) ?_ ?_
          rotate_left
          · intro w'
            go_simp
            with_reducible rfl
          rotate_left
          · simp only [Act.put, List.setIfInBounds_toArray, List.set_cons_zero, List.set_cons_succ, i64_w, i32_w]
            rfl
          refine pure_ (i := 8) (N := some 27) (v := ?_) (a' := ?_) #[true, true, true, true, true, false, false, true, true, false, false, false, false, false, false, false, false, false, false, false, false, false, false, false] rfl rfl (any_of HT_.out (by kernel_rfl)) (fun _ _ _ h => h) (Or.inl ⟨by rfl, ?_⟩) ?_ ?_
          rotate_left
          · intro w'
            go_simp
            with_reducible rfl
          rotate_left
          · simp only [Act.put, List.setIfInBounds_toArray, List.set_cons_zero, List.set_cons_succ, i64_w, i32_w]
            rfl
          refine pure_ (i := 11) (N := some 30) (v := ?_) (a' := ?_) #[true, true, true, true, true, false, false, true, true, false, false, true, false, false, false, false, false, false, false, false, false, false, false, false] rfl rfl (any_of HT_.out (by kernel_rfl)) (fun _ _ _ h => h) (Or.inl ⟨by rfl, ?_⟩) ?_ ?_
          rotate_left
          · intro w'
            go_simp
            with_reducible rfl
          rotate_left
          · simp only [Act.put, List.setIfInBounds_toArray, List.set_cons_zero, List.set_cons_succ, i64_w, i32_w]
            rfl
          refine pure_ (i := 12) (N := some 31) (v := ?_) (a' := ?_) #[true, true, true, true, true, false, false, true, true, false, false, true, true, false, false, false, false, false, false, false, false, false, false, false] rfl rfl (any_of HT_.out (by kernel_rfl)) (fun _ _ _ h => h) (Or.inl ⟨by rfl, ?_⟩) ?_ ?_
          rotate_left
          · intro w'
            go_simp
            with_reducible rfl
          rotate_left
          · simp only [Act.put, List.setIfInBounds_toArray, List.set_cons_zero, List.set_cons_succ, i64_w, i32_w]
            rfl
          refine take_ (i := 5) (N := some 24) (v := ?_) (a' := ?_) #[true, true, true, true, true, true, false, true, true, false, false, true, true, false, false, false, false, false, false, false, false, false, false, false] rfl rfl (take_ofW HT_.out HW_.out (by kernel_rfl)) (fun _ _ _ h => h) (Or.inl ⟨by rfl, ?_⟩) hHeld ?_ ?_
          rotate_left
          · rintro w' ⟨s0, s1, s2⟩
            go_simp
            with_reducible rfl
          rotate_left
          · simp only [Act.put, List.setIfInBounds_toArray, List.set_cons_zero, List.set_cons_succ, i64_w, i32_w]
            rfl
          refine take_ (i := 9) (N := some 28) (v := ?_) (a' := ?_) #[true, true, true, true, true, true, false, true, true, true, false, true, true, false, false, false, false, false, false, false, false, false, false, false] rfl rfl (take_ofW HT_.out HW_.out (by kernel_rfl)) (fun _ _ _ h => h) (Or.inl ⟨by rfl, ?_⟩) hHeld ?_ ?_
          rotate_left
          · rintro w' ⟨s0, s1, s2⟩
            go_simp
            with_reducible rfl
          rotate_left
          · simp only [Act.put, List.setIfInBounds_toArray, List.set_cons_zero, List.set_cons_succ, i64_w, i32_w]
            rfl
          refine take_ (i := 13) (N := some 32) (v := ?_) (a' := ?_) #[true, true, true, true, true, true, false, true, true, true, false, true, true, true, false, false, false, false, false, false, false, false, false, false] rfl rfl (take_ofW HT_.out HW_.out (by kernel_rfl)) (fun _ _ _ h => h) (Or.inl ⟨by rfl, ?_⟩) hHeld ?_ ?_
          rotate_left
          · rintro w' ⟨s0, s1, s2⟩
            go_simp
            with_reducible rfl
          rotate_left
          · simp only [Act.put, List.setIfInBounds_toArray, List.set_cons_zero, List.set_cons_succ, i64_w, i32_w]
            rfl
          refine one_ (i := 6) (N := some 25) #[true, true, true, true, true, true, true, true, true, true, false, true, true, true, false, false, false, false, false, false, false, false, false, false] rfl rfl (one_of HT_.out (by kernel_rfl)) (by decide) (fun K hK => ?_)
          refine goes_ Tryd.func80 (by kernel_rfl) rfl #[.string (rdOf ByteArray.empty t120 0), .int .i64 2] (by rfl) rfl rfl (by (try simp only [List.map_toArray, List.map_cons, List.map_nil]); first | done | rfl | (simp only [List.length_drop, List.length_take]; rfl)) ?_
          with_reducible refine (date_number.calls k (rdOf ByteArray.empty t120 0) 2 t124 _ A6.out).mono ?_
          rintro e w' ⟨rfl, ⟨nd, rfl⟩⟩
          refine ⟨_, rfl, ?_⟩
          refine hK.out _ _ ⟨hHeld.1, hHeld.2.1, hHeld.2.2⟩ (fun hHeld => ?_)
          clear hK K
          refine norm_ (a' := ?_) ?_ ?_
          rotate_left
          · show Act.put _ (some 25) _ = _
            simp only [Act.put, List.setIfInBounds_toArray, List.set_cons_zero, List.set_cons_succ, i64_w, i32_w]
            rfl
          refine one_ (i := 10) (N := some 29) #[true, true, true, true, true, true, true, true, true, true, true, true, true, true, false, false, false, false, false, false, false, false, false, false] rfl rfl (one_of HT_.out (by kernel_rfl)) (by decide) (fun K hK => ?_)
          refine goes_ Tryd.func80 (by kernel_rfl) rfl #[.string (rdOf ByteArray.empty t120 1), .int .i64 2] (by rfl) rfl rfl (by (try simp only [List.map_toArray, List.map_cons, List.map_nil]); first | done | rfl | (simp only [List.length_drop, List.length_take]; rfl)) ?_
          with_reducible refine (date_number.calls k (rdOf ByteArray.empty t120 1) 2 t126 _ A8.out).mono ?_
          rintro e w' ⟨rfl, ⟨nd, rfl⟩⟩
          refine ⟨_, rfl, ?_⟩
          refine hK.out _ _ ⟨hHeld.1, hHeld.2.1, hHeld.2.2⟩ (fun hHeld => ?_)
          clear hK K
          refine norm_ (a' := ?_) ?_ ?_
          rotate_left
          · show Act.put _ (some 29) _ = _
            simp only [Act.put, List.setIfInBounds_toArray, List.set_cons_zero, List.set_cons_succ, i64_w, i32_w]
            rfl
          refine one_ (i := 14) (N := some 33) #[true, true, true, true, true, true, true, true, true, true, true, true, true, true, true, false, false, false, false, false, false, false, false, false] rfl rfl (one_of HT_.out (by kernel_rfl)) (by decide) (fun K hK => ?_)
          refine goes_ Tryd.func80 (by kernel_rfl) rfl #[.string (rdOf ByteArray.empty t120 2), .int .i64 2] (by rfl) rfl rfl (by (try simp only [List.map_toArray, List.map_cons, List.map_nil]); first | done | rfl | (simp only [List.length_drop, List.length_take]; rfl)) ?_
          with_reducible refine (date_number.calls k (rdOf ByteArray.empty t120 2) 2 t128 _ A10.out).mono ?_
          rintro e w' ⟨rfl, ⟨nd, rfl⟩⟩
          refine ⟨_, rfl, ?_⟩
          refine hK.out _ _ ⟨hHeld.1, hHeld.2.1, hHeld.2.2⟩ (fun hHeld => ?_)
          clear hK K
          refine norm_ (a' := ?_) ?_ ?_
          rotate_left
          · show Act.put _ (some 33) _ = _
            simp only [Act.put, List.setIfInBounds_toArray, List.set_cons_zero, List.set_cons_succ, i64_w, i32_w]
            rfl
          refine pure_ (i := 15) (N := some 34) (v := ?_) (a' := ?_) #[true, true, true, true, true, true, true, true, true, true, true, true, true, true, true, true, false, false, false, false, false, false, false, false] rfl rfl (any_of HT_.out (by kernel_rfl)) (fun _ _ _ h => h) (Or.inl ⟨by rfl, ?_⟩) ?_ ?_
          rotate_left
          · intro w'
            go_simp
            with_reducible rfl
          rotate_left
          · simp only [Act.put, List.setIfInBounds_toArray, List.set_cons_zero, List.set_cons_succ, i64_w, i32_w]
            rfl
          refine pure_ (i := 16) (N := some 35) (v := ?_) (a' := ?_) #[true, true, true, true, true, true, true, true, true, true, true, true, true, true, true, true, true, false, false, false, false, false, false, false] rfl rfl (any_of HT_.out (by kernel_rfl)) (fun _ _ _ h => h) (Or.inl ⟨by rfl, ?_⟩) ?_ ?_
          rotate_left
          · intro w'
            go_simp
            with_reducible rfl
          rotate_left
          · simp only [Act.put, List.setIfInBounds_toArray, List.set_cons_zero, List.set_cons_succ, i64_w, i32_w]
            rfl
          refine one_ (i := 17) (N := none) #[true, true, true, true, true, true, true, true, true, true, true, true, true, true, true, true, true, true, false, false, false, false, false, false] rfl rfl (one_of HT_.out (by kernel_rfl)) (by decide) (fun K hK => ?_)
          have hs15 := cellS88_3 HI0.out.1
          have hfs15 := blk_frozen HI0.out.1 3
          refine skip_ (w1 := ?_) (by rfl) rfl ?_ ?_
          rotate_left
          · go_simp
            rfl
          refine hK.out _ _ ⟨((cell_far (p := ⟨g, _, none⟩) (by first | exact Kd.own_blk (IsS88.own_ne HI0.out HO122.out (by decide)) | (rw [add_block]; exact Kd.own_blk (IsS88.own_ne HI0.out HO122.out (by decide))) | (show (Addr.add _ _).block ≠ _; rw [add_block]; exact Kd.own_blk (IsS88.own_ne HI0.out HO122.out (by decide))) | (dsimp only; exact Kd.own_blk (IsS88.own_ne HI0.out HO122.out (by decide)))) _).trans (hHeld.1)), ((cell_far (p := ⟨g, _, none⟩) (by first | exact Kd.own_blk (IsS88.own_ne HI0.out HO122.out (by decide)) | (rw [add_block]; exact Kd.own_blk (IsS88.own_ne HI0.out HO122.out (by decide))) | (show (Addr.add _ _).block ≠ _; rw [add_block]; exact Kd.own_blk (IsS88.own_ne HI0.out HO122.out (by decide))) | (dsimp only; exact Kd.own_blk (IsS88.own_ne HI0.out HO122.out (by decide)))) _).trans (hHeld.2.1)), ((cell_far (p := ⟨g, _, none⟩) (by first | exact Kd.own_blk (IsS88.own_ne HI0.out HO122.out (by decide)) | (rw [add_block]; exact Kd.own_blk (IsS88.own_ne HI0.out HO122.out (by decide))) | (show (Addr.add _ _).block ≠ _; rw [add_block]; exact Kd.own_blk (IsS88.own_ne HI0.out HO122.out (by decide))) | (dsimp only; exact Kd.own_blk (IsS88.own_ne HI0.out HO122.out (by decide)))) _).trans (hHeld.2.2))⟩ (fun hHeld => ?_)
          clear hK K
          refine pure_ (i := 18) (N := some 36) (v := ?_) (a' := ?_) #[true, true, true, true, true, true, true, true, true, true, true, true, true, true, true, true, true, true, true, false, false, false, false, false] rfl rfl (any_of HT_.out (by kernel_rfl)) (fun _ _ _ h => h) (Or.inl ⟨by rfl, ?_⟩) ?_ ?_
          rotate_left
          · intro w'
            go_simp
            with_reducible rfl
          rotate_left
          · simp only [Act.put, List.setIfInBounds_toArray, List.set_cons_zero, List.set_cons_succ, i64_w, i32_w]
            rfl
          refine pure_ (i := 19) (N := some 37) (v := ?_) (a' := ?_) #[true, true, true, true, true, true, true, true, true, true, true, true, true, true, true, true, true, true, true, true, false, false, false, false] rfl rfl (any_of HT_.out (by kernel_rfl)) (fun _ _ _ h => h) (Or.inl ⟨by rfl, ?_⟩) ?_ ?_
          rotate_left
          · intro w'
            go_simp
            with_reducible rfl
          rotate_left
          · simp only [Act.put, List.setIfInBounds_toArray, List.set_cons_zero, List.set_cons_succ, i64_w, i32_w]
            rfl
          refine one_ (i := 20) (N := none) #[true, true, true, true, true, true, true, true, true, true, true, true, true, true, true, true, true, true, true, true, true, false, false, false] rfl rfl (one_of HT_.out (by kernel_rfl)) (by decide) (fun K hK => ?_)
          have hs16 := cellS88_4 HI0.out.1
          have hfs16 := blk_frozen HI0.out.1 4
          refine skip_ (w1 := ?_) (by rfl) rfl ?_ ?_
          rotate_left
          · go_simp
            rfl
          refine hK.out _ _ ⟨((cell_far (p := ⟨g, _, none⟩) (by first | exact Kd.own_blk (IsS88.own_ne HI0.out HO122.out (by decide)) | (rw [add_block]; exact Kd.own_blk (IsS88.own_ne HI0.out HO122.out (by decide))) | (show (Addr.add _ _).block ≠ _; rw [add_block]; exact Kd.own_blk (IsS88.own_ne HI0.out HO122.out (by decide))) | (dsimp only; exact Kd.own_blk (IsS88.own_ne HI0.out HO122.out (by decide)))) _).trans (hHeld.1)), ((cell_far (p := ⟨g, _, none⟩) (by first | exact Kd.own_blk (IsS88.own_ne HI0.out HO122.out (by decide)) | (rw [add_block]; exact Kd.own_blk (IsS88.own_ne HI0.out HO122.out (by decide))) | (show (Addr.add _ _).block ≠ _; rw [add_block]; exact Kd.own_blk (IsS88.own_ne HI0.out HO122.out (by decide))) | (dsimp only; exact Kd.own_blk (IsS88.own_ne HI0.out HO122.out (by decide)))) _).trans (hHeld.2.1)), ((cell_far (p := ⟨g, _, none⟩) (by first | exact Kd.own_blk (IsS88.own_ne HI0.out HO122.out (by decide)) | (rw [add_block]; exact Kd.own_blk (IsS88.own_ne HI0.out HO122.out (by decide))) | (show (Addr.add _ _).block ≠ _; rw [add_block]; exact Kd.own_blk (IsS88.own_ne HI0.out HO122.out (by decide))) | (dsimp only; exact Kd.own_blk (IsS88.own_ne HI0.out HO122.out (by decide)))) _).trans (hHeld.2.2))⟩ (fun hHeld => ?_)
          clear hK K
          refine pure_ (i := 21) (N := some 38) (v := ?_) (a' := ?_) #[true, true, true, true, true, true, true, true, true, true, true, true, true, true, true, true, true, true, true, true, true, true, false, false] rfl rfl (any_of HT_.out (by kernel_rfl)) (fun _ _ _ h => h) (Or.inl ⟨by rfl, ?_⟩) ?_ ?_
          rotate_left
          · intro w'
            go_simp
            with_reducible rfl
          rotate_left
          · simp only [Act.put, List.setIfInBounds_toArray, List.set_cons_zero, List.set_cons_succ, i64_w, i32_w]
            rfl
          refine pure_ (i := 22) (N := some 39) (v := ?_) (a' := ?_) #[true, true, true, true, true, true, true, true, true, true, true, true, true, true, true, true, true, true, true, true, true, true, true, false] rfl rfl (any_of HT_.out (by kernel_rfl)) (fun _ _ _ h => h) (Or.inl ⟨by rfl, ?_⟩) ?_ ?_
          rotate_left
          · intro w'
            go_simp
            with_reducible rfl
          rotate_left
          · simp only [Act.put, List.setIfInBounds_toArray, List.set_cons_zero, List.set_cons_succ, i64_w, i32_w]
            rfl
          refine one_ (i := 23) (N := none) #[true, true, true, true, true, true, true, true, true, true, true, true, true, true, true, true, true, true, true, true, true, true, true, true] rfl rfl (one_of HT_.out (by kernel_rfl)) (by decide) (fun K hK => ?_)
          have hs17 := cellS88_5 HI0.out.1
          have hfs17 := blk_frozen HI0.out.1 5
          refine skip_ (w1 := ?_) (by rfl) rfl ?_ ?_
          rotate_left
          · go_simp
            rfl
          refine hK.out _ _ ⟨((cell_far (p := ⟨g, _, none⟩) (by first | exact Kd.own_blk (IsS88.own_ne HI0.out HO122.out (by decide)) | (rw [add_block]; exact Kd.own_blk (IsS88.own_ne HI0.out HO122.out (by decide))) | (show (Addr.add _ _).block ≠ _; rw [add_block]; exact Kd.own_blk (IsS88.own_ne HI0.out HO122.out (by decide))) | (dsimp only; exact Kd.own_blk (IsS88.own_ne HI0.out HO122.out (by decide)))) _).trans (hHeld.1)), ((cell_far (p := ⟨g, _, none⟩) (by first | exact Kd.own_blk (IsS88.own_ne HI0.out HO122.out (by decide)) | (rw [add_block]; exact Kd.own_blk (IsS88.own_ne HI0.out HO122.out (by decide))) | (show (Addr.add _ _).block ≠ _; rw [add_block]; exact Kd.own_blk (IsS88.own_ne HI0.out HO122.out (by decide))) | (dsimp only; exact Kd.own_blk (IsS88.own_ne HI0.out HO122.out (by decide)))) _).trans (hHeld.2.1)), ((cell_far (p := ⟨g, _, none⟩) (by first | exact Kd.own_blk (IsS88.own_ne HI0.out HO122.out (by decide)) | (rw [add_block]; exact Kd.own_blk (IsS88.own_ne HI0.out HO122.out (by decide))) | (show (Addr.add _ _).block ≠ _; rw [add_block]; exact Kd.own_blk (IsS88.own_ne HI0.out HO122.out (by decide))) | (dsimp only; exact Kd.own_blk (IsS88.own_ne HI0.out HO122.out (by decide)))) _).trans (hHeld.2.2))⟩ (fun hHeld => ?_)
          clear hK K
          refine done_ (done_of HT_.out (by kernel_rfl)) ?_
          try go_wp2
          first | go_end0 | ((try simp only [Exit.inBlock, Exit.then]); refine bodyPost_ret (results_none rfl _ _ _) rfl ?_)
          exact ⟨by first | rfl | (simp [errW_none, errW_some] <;> rfl) | (simp [*, errW_none, errW_some] <;> rfl), by repeat (first | (with_reducible first | exact HI0.out | apply IsS88.alloc | apply IsS88.drewN | apply IsS88.drew | apply IsS88.set_0 | apply IsS88.set_1 | apply IsS88.set_2 | apply IsS88.set_3 | apply IsS88.set_4 | apply IsS88.set_5) | exact HI0.out), by repeat (first | (with_reducible first | exact HB.out | apply below_alloc | apply pw_below_drewN | apply below_drew1 | refine below_set ?_ (IsS88.ge HI0.out)) | exact HB.out), by repeat (first | (with_reducible first | exact HK.out | apply KeepBut.set_ | apply keep_drewN | apply keep_drew | apply keep_alloc) | exact HK.out)⟩
        · rw [if_neg c9] at H
          exact absurd H (by simp)
      · rw [if_neg c7] at H
        exact absurd H (by simp)
    · rw [if_neg c5] at H
      exact absurd H (by simp)
  · rw [if_neg c4] at H
    have c4b0 : ((t120.length : Int) == 3) = false := beq_eq_false_iff_ne.mpr c4
    have c4b1 : ((t120.length : Int) != 3) = true := bne_iff_ne.mpr c4
    simp only [Option.some.injEq, Prod.mk.injEq] at H
    obtain ⟨rfl, rfl, rfl, rfl, rfl, rfl⟩ := H
    obtain ⟨HGz18, hgz18⟩ := HI0.out
    have hcz18_0 := cellS88_0 HGz18
    have hcz18_1 := cellS88_1 HGz18
    have hcz18_2 := cellS88_2 HGz18
    have hcz18_3 := cellS88_3 HGz18
    have hcz18_4 := cellS88_4 HGz18
    have hcz18_5 := cellS88_5 HGz18
    have hfz18_0 := blk_frozen HGz18 0
    have hfz18_1 := blk_frozen HGz18 1
    have hfz18_2 := blk_frozen HGz18 2
    have hfz18_3 := blk_frozen HGz18 3
    have hfz18_4 := blk_frozen HGz18 4
    have hfz18_5 := blk_frozen HGz18 5
    clear HGz18 hgz18
    go_enter Tryd.func82, Tryd.ntmps82
    go_wp2_with (first | ((with_reducible refine gate_callee (f := 58) rfl ?_); refine goesL_ (some 15) rfl rfl Tryd.func58 (by kernel_rfl) rfl #[.string a1, .string (⟨#[58]⟩ : ByteArray)] rfl (by (try simp only [List.map_toArray, List.map_cons, List.map_nil]); first | done | rfl | (simp only [List.length_drop, List.length_take]; rfl)) ?_; (with_reducible refine (strings_Split.calls a1 (⟨#[58]⟩ : ByteArray) t120 _ A3.out).mono ?_); rintro e w19 ⟨v121, rfl, ho0, hb⟩; refine ⟨_, rfl, ?_⟩; have n0_ := Aside0.mk (Kd.R_lower ho0 (keep_size (w := w) (g := g) (row := none) (by repeat (first | (with_reducible first | exact HK.out | apply KeepBut.set_ | apply keep_drewN | apply keep_drew | apply keep_alloc) | exact HK.out)))); have n1_ := Aside0.mk (IsS88.below (show IsS88 w0 (((w.setCell ⟨g, 3, none⟩ (.int .i64 (-1))).setCell ⟨g, 4, none⟩ (.int .i64 (-1))).setCell ⟨g, 5, none⟩ (.int .i64 (-1))) g s0_0 s0_1 s0_2 (-1) (-1) (-1) from by repeat (first | (with_reducible first | exact HI0.out | apply IsS88.alloc | apply IsS88.drewN | apply IsS88.drew | apply IsS88.set_0 | apply IsS88.set_1 | apply IsS88.set_2 | apply IsS88.set_3 | apply IsS88.set_4 | apply IsS88.set_5) | exact HI0.out)) hb); have n2_ := Aside0.mk (KeepBut.trans (by repeat (first | (with_reducible first | exact HK.out | apply KeepBut.set_ | apply keep_drewN | apply keep_drew | apply keep_alloc) | exact HK.out)) (KeepBut.of_below hb g none) (.inl rfl)); have n3_ := Aside0.mk (below_step (by repeat (first | (with_reducible first | exact HB.out | apply below_alloc | apply pw_below_drewN | apply below_drew1 | refine below_set ?_ (IsS88.ge HI0.out)) | exact HB.out)) hb); clear HI0; clear HK; clear HB; have HO122 := n0_; have HI0 := n1_; have HK := n2_; have HB := n3_; clear n0_ n1_ n2_ n3_; (try clear hb); (try clear hb2); (try clear hk); (try clear hi); (try clear ho0); obtain ⟨Ao20, co20, eo20⟩ := Kd.R_slice HO122.out; subst eo20))
    first | go_end0 | ((try simp only [Exit.inBlock, Exit.then]); refine bodyPost_ret (results_none rfl _ _ _) rfl ?_)
    exact ⟨by first | rfl | (simp [errW_none, errW_some] <;> rfl) | (simp [*, errW_none, errW_some] <;> rfl), by repeat (first | (with_reducible first | exact HI0.out | apply IsS88.alloc | apply IsS88.drewN | apply IsS88.drew | apply IsS88.set_0 | apply IsS88.set_1 | apply IsS88.set_2 | apply IsS88.set_3 | apply IsS88.set_4 | apply IsS88.set_5) | exact HI0.out), by repeat (first | (with_reducible first | exact HB.out | apply below_alloc | apply pw_below_drewN | apply below_drew1 | refine below_set ?_ (IsS88.ge HI0.out)) | exact HB.out), by repeat (first | (with_reducible first | exact HK.out | apply KeepBut.set_ | apply keep_drewN | apply keep_drew | apply keep_alloc) | exact HK.out)⟩

/-! ### date_days: function 108 -/
def date_days.f  : Option (List ByteArray) := some (([(⟨#[83, 117, 110, 100, 97, 121]⟩ : ByteArray), (⟨#[77, 111, 110, 100, 97, 121]⟩ : ByteArray), (⟨#[84, 117, 101, 115, 100, 97, 121]⟩ : ByteArray), (⟨#[87, 101, 100, 110, 101, 115, 100, 97, 121]⟩ : ByteArray), (⟨#[84, 104, 117, 114, 115, 100, 97, 121]⟩ : ByteArray), (⟨#[70, 114, 105, 100, 97, 121]⟩ : ByteArray), (⟨#[83, 97, 116, 117, 114, 100, 97, 121]⟩ : ByteArray)] : List ByteArray))
set_option maxHeartbeats 2000000 in
set_option maxRecDepth 100000 in
theorem date_days.calls  (r : List ByteArray) (w : World) (h : date_days.f  = some r) :
    Calls Tryd.prog 108 #[] w fun e w' => ∃ v0_ : Value, e = .returned (v0_) ∧ Kd.R Kd.string 9 w' w.heap.size (fun _ => True) v0_ r ∧ Below w.heap.size w w' := by
  have HB := Aside0.mk (Below.refl w.heap.size w)
  have H : (some (([(⟨#[83, 117, 110, 100, 97, 121]⟩ : ByteArray), (⟨#[77, 111, 110, 100, 97, 121]⟩ : ByteArray), (⟨#[84, 117, 101, 115, 100, 97, 121]⟩ : ByteArray), (⟨#[87, 101, 100, 110, 101, 115, 100, 97, 121]⟩ : ByteArray), (⟨#[84, 104, 117, 114, 115, 100, 97, 121]⟩ : ByteArray), (⟨#[70, 114, 105, 100, 97, 121]⟩ : ByteArray), (⟨#[83, 97, 116, 117, 114, 100, 97, 121]⟩ : ByteArray)] : List ByteArray))) = some r := h
  clear h
  obtain ⟨y129, hy129⟩ : ∃ y_ : List ByteArray, y_ = (([(⟨#[83, 117, 110, 100, 97, 121]⟩ : ByteArray), (⟨#[77, 111, 110, 100, 97, 121]⟩ : ByteArray), (⟨#[84, 117, 101, 115, 100, 97, 121]⟩ : ByteArray), (⟨#[87, 101, 100, 110, 101, 115, 100, 97, 121]⟩ : ByteArray), (⟨#[84, 104, 117, 114, 115, 100, 97, 121]⟩ : ByteArray), (⟨#[70, 114, 105, 100, 97, 121]⟩ : ByteArray), (⟨#[83, 97, 116, 117, 114, 100, 97, 121]⟩ : ByteArray)] : List ByteArray)) := ⟨_, rfl⟩
  replace H : (some y129) = some r := by first | (rw [hy129]; with_reducible exact H) | (have H2_ := (Option.bind_some _ _).symm.trans H; rw [hy129]; with_reducible exact H2_) | (have H2_ := (Option.bind_some _ _).symm.trans H; with_reducible exact H2_) | with_reducible exact H | (rw [hy129]; exact H) | exact H
  have Ny129 := Aside0.mk hy129
  clear hy129
  obtain rfl := Option.some.inj H
  go_enter Tryd.func108, Tryd.ntmps108
  go_wp2_with (first | ((with_reducible refine gate_dst (N := 1) rfl ?_); refine Kd.R_lit Kd.string _ 9 ?hg (N := 1) ?hd (xs := ([(⟨#[83, 117, 110, 100, 97, 121]⟩ : ByteArray), (⟨#[77, 111, 110, 100, 97, 121]⟩ : ByteArray), (⟨#[84, 117, 101, 115, 100, 97, 121]⟩ : ByteArray), (⟨#[87, 101, 100, 110, 101, 115, 100, 97, 121]⟩ : ByteArray), (⟨#[84, 104, 117, 114, 115, 100, 97, 121]⟩ : ByteArray), (⟨#[70, 114, 105, 100, 97, 121]⟩ : ByteArray), (⟨#[83, 97, 116, 117, 114, 100, 97, 121]⟩ : ByteArray)] : List ByteArray)) (inner := [.string (⟨#[83, 117, 110, 100, 97, 121]⟩ : ByteArray), .string (⟨#[77, 111, 110, 100, 97, 121]⟩ : ByteArray), .string (⟨#[84, 117, 101, 115, 100, 97, 121]⟩ : ByteArray), .string (⟨#[87, 101, 100, 110, 101, 115, 100, 97, 121]⟩ : ByteArray), .string (⟨#[84, 104, 117, 114, 115, 100, 97, 121]⟩ : ByteArray), .string (⟨#[70, 114, 105, 100, 97, 121]⟩ : ByteArray), .string (⟨#[83, 97, 116, 117, 114, 100, 97, 121]⟩ : ByteArray)]) (ok := fun _ => True) (okp := fun _ => True) ?hr ?hp (fun _ hk => hk) trivial (Below.refl _ _) (Nat.le_refl _) (by simp) ?_; (case hd => rfl); (case hg => rfl); (case hr => first | (go_simp; done) | (go_simp; rfl)); (case hp => exact (Reps.one (show Kd.M Kd.string _ _ _ (⟨#[83, 117, 110, 100, 97, 121]⟩ : ByteArray) [.string (⟨#[83, 117, 110, 100, 97, 121]⟩ : ByteArray)] from rfl) (Reps.one (show Kd.M Kd.string _ _ _ (⟨#[77, 111, 110, 100, 97, 121]⟩ : ByteArray) [.string (⟨#[77, 111, 110, 100, 97, 121]⟩ : ByteArray)] from rfl) (Reps.one (show Kd.M Kd.string _ _ _ (⟨#[84, 117, 101, 115, 100, 97, 121]⟩ : ByteArray) [.string (⟨#[84, 117, 101, 115, 100, 97, 121]⟩ : ByteArray)] from rfl) (Reps.one (show Kd.M Kd.string _ _ _ (⟨#[87, 101, 100, 110, 101, 115, 100, 97, 121]⟩ : ByteArray) [.string (⟨#[87, 101, 100, 110, 101, 115, 100, 97, 121]⟩ : ByteArray)] from rfl) (Reps.one (show Kd.M Kd.string _ _ _ (⟨#[84, 104, 117, 114, 115, 100, 97, 121]⟩ : ByteArray) [.string (⟨#[84, 104, 117, 114, 115, 100, 97, 121]⟩ : ByteArray)] from rfl) (Reps.one (show Kd.M Kd.string _ _ _ (⟨#[70, 114, 105, 100, 97, 121]⟩ : ByteArray) [.string (⟨#[70, 114, 105, 100, 97, 121]⟩ : ByteArray)] from rfl) (Reps.one (show Kd.M Kd.string _ _ _ (⟨#[83, 97, 116, 117, 114, 100, 97, 121]⟩ : ByteArray) [.string (⟨#[83, 97, 116, 117, 114, 100, 97, 121]⟩ : ByteArray)] from rfl) (Reps.none _ _))))))))); intro v130 w1 ho2 hb hg_ hnew_; clear hg_ hnew_; (first | rw [← Ny129.out] at ho2 | (simp only [Int.reduceToNat] at ho2; rw [← Ny129.out] at ho2)); have n0_ := Aside0.mk (Kd.R_lower ho2 (below_size (by repeat (first | (with_reducible first | exact HB.out | apply below_alloc | apply pw_below_drewN | apply below_drew1) | exact HB.out)))); have n1_ := Aside0.mk (below_step (by repeat (first | (with_reducible first | exact HB.out | apply below_alloc | apply pw_below_drewN | apply below_drew1) | exact HB.out)) hb); clear HB; have HO131 := n0_; have HB := n1_; clear n0_ n1_; clear hb ho2))
  go_ret
  exact ⟨_, by first | rfl | (simp [errW_none, errW_some] <;> rfl) | (simp [*, errW_none, errW_some] <;> rfl), by (with_reducible repeat (first | apply Kd.R_alloc | apply Kd.R_drewN | apply Kd.R_drew)); exact HO131.out, by repeat (first | (with_reducible first | exact HB.out | apply below_alloc | apply pw_below_drewN | apply below_drew1) | exact HB.out)⟩

/-! ### date_named: function 83 -/
/-! #### a name among names -/
def PredS (g : Nat) (lb : Array Value) (p : ByteArray → Bool) (base : Nat) (w : World) (l : List ByteArray) : Prop :=
  ∀ x ∈ l, ∀ W, Below base w W → Calls Tryd.prog g (#[.string x] ++ lb) W fun e w' => e = .returned (.bool (p x)) ∧ Below W.heap.size W w'
theorem at_str {w : World} {A : Option Addr} {n : Nat} {xs : List ByteArray} (h : Kd.C Kd.string w A n xs) (i : Nat) (x : ByteArray) (hx : xs[i]? = some x) : ∃ ad, A = some ad ∧ w.cell? (ad.add i) = some (.string x) := by
  have hn := h.1
  have hi := (List.getElem?_eq_some_iff.1 hx).1
  obtain ⟨ad, e, hc⟩ := h.2.2 (by omega)
  obtain ⟨c, hl, hr, hcell⟩ := hc i x hx
  refine ⟨ad, e, ?_⟩
  have := hcell 0 (.string x) (by
    have e : c = [.string x] := hr
    rw [e]; rfl)
  simpa [Kd.string, Kd.scalar] using this
set_option maxHeartbeats 8000000 in
set_option maxRecDepth 100000 in
theorem slices_IndexFuncS.own (g : Nat) (lb : Array Value) (p : ByteArray → Bool) (eg : ∀ args w, (callFunc g args).run Tryd.prog w = .ok (.enter g args) w) (A : Option Addr) (c : Nat) (l : List ByteArray) (w : World)
    (base : Nat) (hbase : base ≤ w.heap.size) (hC : Kd.C Kd.string w A l.length l) (hp : PredS g lb p base w l) :
    Calls Tryd.prog 88 #[.slice A l.length c, .func (.func g) #[] lb] w fun e w' => ∃ i : Int, e = .returned (.int .i64 i) ∧ (decide (i ≥ 0) = l.any p) ∧ Below w.heap.size w w' := by
  have HR := Aside0.mk hC
  have HP := Aside0.mk hp
  have hlen : l.length ≤ 9223372036854775807 := hC.2.1
  clear hC hp
  go_enter Tryd.func88, Tryd.ntmps88
  go_wp2
  go_loopg [8] l.length (fun gg i wr => ∃ n : Nat, i = .int .i64 n ∧ n ≤ l.length ∧ l.length - n ≤ gg ∧ Aside0 (∀ (j : Nat) (y : ByteArray), j < n → l[j]? = some y → p y = false) ∧ Aside0 (Below w.heap.size w wr))
  case atStart => exact ⟨0, rfl, by omega, by omega, ⟨fun j y h => absurd h (by omega)⟩, ⟨Below.refl _ _⟩⟩
  case round =>
    obtain ⟨n, rfl, hn, hgg, hA, hW⟩ := hrel
    by_cases hlt : n < l.length
    · have hx : l[n]? = some l[n] := List.getElem?_eq_getElem hlt
      have q1 : decide ((n : Int) < (l.length : Int)) = true := decide_eq_true (by omega)
      obtain ⟨ad, rfl, hx0⟩ := at_str HR.out n _ hx
      replace hx0 := (hW.out.cell (World.block_lt_of_cell? w _ hx0)).trans hx0
      have hcall := HP.out _ (List.getElem_mem hlt) wr (hW.out.mono hbase)
      have p5 := eq_true (show (0 : Int) ≤ (n : Int) by omega)
      have q5 := eq_true (show (n : Int) < (l.length : Int) by omega)
      have HX := Aside0.mk hx
      clear hx
      generalize l[n] = x at *
      cases hq : p x with
      | true =>
        rw [hq] at hcall
        go_wp2_with (go_at_fn g; refine hcall.mono ?_; rintro e w' ⟨rfl, hb⟩)
        go_ret
        refine ⟨_, rfl, ?_, hW.out.trans (hb.mono hW.out.size)⟩
        have hm : x ∈ l := List.mem_of_getElem? HX.out
        rw [List.any_eq_true.2 ⟨x, hm, hq⟩]
        exact decide_eq_true (by omega)
      | false =>
        rw [hq] at hcall
        go_wp2_with (go_at_fn g; refine hcall.mono ?_; rintro e w' ⟨rfl, hb⟩)
        go_roundg (l.length - (n + 1))
        case measure => omega
        case rel =>
          refine ⟨n + 1, rfl, by omega, by omega, ⟨fun j y hj hy => ?_⟩, ⟨hW.out.trans (hb.mono hW.out.size)⟩⟩
          by_cases e : j = n
          · subst e
            rw [HX.out] at hy
            rw [← Option.some.inj hy]; exact hq
          · exact hA.out j y (by omega) hy
    · have q1 : decide ((n : Int) < (l.length : Int)) = false := decide_eq_false (by omega)
      go_wp2
      go_ret
      refine ⟨_, rfl, ?_, hW.out⟩
      have : l.any p = false := by
        rw [List.any_eq_false]
        intro y hy
        obtain ⟨j, hj, e⟩ := List.getElem_of_mem hy
        rw [hA.out j y (by omega) (by rw [← e]; exact List.getElem?_eq_getElem hj)]; simp
      rw [this]; rfl
set_option maxHeartbeats 8000000 in
set_option maxRecDepth 100000 in
theorem slices_ContainsFuncS.own (g : Nat) (lb : Array Value) (p : ByteArray → Bool) (eg : ∀ args w, (callFunc g args).run Tryd.prog w = .ok (.enter g args) w) (A : Option Addr) (c : Nat) (l : List ByteArray) (w : World)
    (base : Nat) (hbase : base ≤ w.heap.size) (hC : Kd.C Kd.string w A l.length l) (hp : PredS g lb p base w l) :
    Calls Tryd.prog 66 #[.slice A l.length c, .func (.func g) #[] lb] w fun e w' => e = .returned (.bool (l.any p)) ∧ Below w.heap.size w w' := by
  have hI := slices_IndexFuncS.own g lb p eg A c l w base hbase hC hp
  clear hC hp
  go_enter Tryd.func66, Tryd.ntmps66
  go_wp2_with (go_at_call 88; refine hI.mono ?_; rintro e w' ⟨i, rfl, hi, hb⟩)
  go_ret
  exact ⟨by rw [← hi]; simp [*], hb⟩
def Own.dayNames : List ByteArray := date_days.f.getD []
def Own.nameIs (sh : Bool) (s x : ByteArray) : Bool := if sh = true then (x.extract 0 3).toList == s.toList else x.toList == s.toList
theorem Own.dayNames_len : ∀ x ∈ Own.dayNames, 3 ≤ x.size := by decide
set_option maxHeartbeats 2000000 in
set_option maxRecDepth 100000 in
theorem date_named.lit (x nm : ByteArray) (sh : Bool) (B : Nat) (W : World) (hs : W.cell? ⟨B, 0, none⟩ = some (.string nm)) (hb : W.cell? ⟨B + 1, 0, none⟩ = some (.bool sh)) (hx : 3 ≤ x.size) :
    Calls Tryd.prog 109 (#[.string x] ++ #[.pointer (some ⟨B + 1, 0, none⟩), .pointer (some ⟨B, 0, none⟩)]) W fun e w' => e = .returned (.bool (Own.nameIs sh nm x)) ∧ Below W.heap.size W w' := by
  show Calls Tryd.prog 109 #[.string x, .pointer (some ⟨B + 1, 0, none⟩), .pointer (some ⟨B, 0, none⟩)] W _
  have q1 := eq_true (show (3 : Int) ≤ (x.size : Int) by omega)
  have q2 := eq_true (show 3 ≤ x.size by omega)
  have q3 := decide_eq_true (show (3 : Int) ≤ (x.size : Int) by omega)
  have q4 := decide_eq_true (show 3 ≤ x.size by omega)
  go_enter Tryd.func109, Tryd.ntmps109
  cases sh with
  | true =>
    cases hr : ((x.extract 0 3).toList == nm.toList) with
    | true =>
      go_wp2
      go_quiet (fail)
      go_wp2
      go_ret
      exact ⟨by unfold Own.nameIs; rw [if_pos rfl, hr]; rfl, pw_below_drewN (Below.refl _ _) _⟩
    | false =>
      go_wp2
      go_quiet (fail)
      go_wp2
      go_ret
      exact ⟨by unfold Own.nameIs; rw [if_pos rfl, hr]; rfl, pw_below_drewN (Below.refl _ _) _⟩
  | false =>
    go_wp2
    go_quiet (fail)
    go_wp2
    go_ret
    exact ⟨rfl, pw_below_drewN (Below.refl _ _) _⟩
set_option maxHeartbeats 2000000 in
set_option maxRecDepth 100000 in
theorem date_named.own (s : ByteArray) (sh : Bool) (w : World) :
    Calls Tryd.prog 83 #[.string s, .bool sh] w fun e w' => e = .returned (.bool (Own.dayNames.any (Own.nameIs sh s))) ∧ Below w.heap.size w w' := by
  obtain ⟨w1, hw1⟩ : ∃ w1, w1 = (w.alloc (.cells #[.string s] 9)).alloc (.cells #[.bool sh] 4) := ⟨_, rfl⟩
  have hs1 : w1.heap.size = w.heap.size + 2 := by rw [hw1, World.size_alloc, World.size_alloc]
  have hb1 : Below w.heap.size w w1 := by rw [hw1]; exact ((Below.refl _ w).alloc (Nat.le_refl _) _).alloc (by rw [World.size_alloc]; omega) _
  have c0 : w1.cell? ⟨w.heap.size, 0, none⟩ = some (.string s) := by
    rw [hw1]
    have hh : ((w.alloc (Obj.cells #[Value.string s] 9)).alloc (Obj.cells #[Value.bool sh] 4)).heap[w.heap.size]? = some (.cells #[Value.string s] 9 (0, 0)) := by
      show ((w.heap.push _).push _)[w.heap.size]? = _
      rw [Array.getElem?_push, if_neg (by rw [Array.size_push]; omega), Array.getElem?_push, if_pos rfl]
    rw [blk_cell hh]; rfl
  have c1 : w1.cell? ⟨w.heap.size + 1, 0, none⟩ = some (.bool sh) := by
    rw [hw1]
    have hh : ((w.alloc (Obj.cells #[Value.string s] 9)).alloc (Obj.cells #[Value.bool sh] 4)).heap[w.heap.size + 1]? = some (.cells #[Value.bool sh] 4 (0, 0)) := by
      show ((w.heap.push _).push _)[w.heap.size + 1]? = _
      rw [Array.getElem?_push, if_pos (by rw [Array.size_push])]
    rw [blk_cell hh]; rfl
  have hcf := fun (A : Option Addr) (c : Nat) (W : World) (hB : Below w1.heap.size w1 W) (hC : Kd.C Kd.string W A Own.dayNames.length Own.dayNames) =>
    slices_ContainsFuncS.own 109 #[.pointer (some ⟨w.heap.size + 1, 0, none⟩), .pointer (some ⟨w.heap.size, 0, none⟩)] (Own.nameIs sh s) (enters_of Tryd.func109 (by kernel_rfl) rfl) A c Own.dayNames W w1.heap.size hB.size hC (fun x hx W' hW' =>
      date_named.lit x s sh w.heap.size W' (((hB.trans hW').cell (p := ⟨w.heap.size, 0, none⟩) (by show w.heap.size < _; omega)).trans c0) (((hB.trans hW').cell (p := ⟨w.heap.size + 1, 0, none⟩) (by show w.heap.size + 1 < _; omega)).trans c1) (Own.dayNames_len x hx))
  have hd := fun W => date_days.calls Own.dayNames W rfl
  have HB := Aside0.mk hb1
  have HZ := Aside0.mk hs1
  clear c0 c1 hb1 hs1
  go_enter Tryd.func83, Tryd.ntmps83
  go_wp2_with (first | (go_at_call 108; rw [← hw1]; (with_reducible refine (hd _).mono ?_); rintro e w2 ⟨v, rfl, hR, hB2⟩; obtain ⟨A2, c2, rfl, hc2, hC2⟩ := Kd.R_reads hR) | (go_at_call 66; (with_reducible refine (hcf _ _ _ hB2 hC2).mono ?_); rintro e w3 ⟨rfl, hB3⟩))
  go_ret
  exact ⟨rfl, HB.out.trans ((hB2.trans (hB3.mono hB2.size)).mono (by have := HZ.out; omega))⟩
def date_named.f (a0 : ByteArray) (a1 : Bool) : Option Bool := some (Own.dayNames.any (Own.nameIs a1 a0))
theorem date_named.calls (a0 : ByteArray) (a1 : Bool) (r : Bool) (w : World) (h : date_named.f a0 a1 = some r) :
    Calls Tryd.prog 83 #[.string a0, .bool a1] w fun e w' => e = .returned (.bool r) ∧ Below w.heap.size w w' := by
  obtain rfl := Option.some.inj h
  exact date_named.own a0 a1 w


end Go.Proofs.YtdikhinmlpihdaaDoor.Q
