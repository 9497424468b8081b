-- Written by a program of this session's (wip/xprint.py), out of the seat's translation.
import Derived.Test.YtifchklfomddhaaDoorR0
import Derived.Test.YtifchklfomddhaaDoorR1
import Derived.Test.YtifchklfomddhaaDoorR2
import Derived.Test.YtifchklfomddhaaDoorR3
namespace Go.Proofs.YtifchklfomddhaaDoor.R
open Go.RowKit Go.Proofs.YtifchklfomddhaaDoorW.PrintWords Go.Proofs.YtifchklfomddhaaDoorW.PrintLast Go.Proofs.YtifchklfomddhaaDoorW.PrintMore
attribute [local go_sem] max2_int min2_int max_two min_two max_three min_three max_four min_four   -- for this text's walks alone
set_option linter.unusedVariables false
set_option linter.unusedSimpArgs false

/-! ### sprlaw14_CcSeconds: function 6 -/
mutual
def sprlaw14_CcSeconds.j0 : Nat → Int → Int → Bool → Option (Bool)
  | 0, _, _, _ => none
  | k + 1, x0, x1, x27 => if x27 = true then ((sprlaw14_first.f k).bind fun t124 => (some t124)) else ((sprref_Dec.f k x0).bind fun t125 => ((cc_Seconds.f k t125).bind fun bt126 => (sprlaw14_CcSeconds.l0 k x0 x1 t125 bt126.1 bt126.2 0)))
def sprlaw14_CcSeconds.l0 : Nat → Int → Int → ByteArray → Int → Bool → Int → Option (Bool)
  | 0, _, _, _, _, _, _ => none
  | k + 1, x0, x1, x5, x6, x7, x8 => if x8 < x1 then (if 1 + x5.size ≤ 9223372036854775807 then (sprlaw14_CcSeconds.l0 k x0 x1 ((⟨#[48]⟩ : ByteArray) ++ x5) x6 x7 (wrap64 (x8 + 1))) else (none)) else ((cc_Seconds.f k x5).bind fun bt128 => (if 1 + x5.size ≤ 9223372036854775807 then ((cc_Seconds.f k ((⟨#[45]⟩ : ByteArray) ++ x5)).bind fun bt130 => (if x5.size + 1 ≤ 9223372036854775807 then ((cc_Seconds.f k (x5 ++ (⟨#[32]⟩ : ByteArray))).bind fun bt132 => (if 8 + x5.size ≤ 9223372036854775807 then ((cc_Parse.f k (([(⟨#[109, 97, 120, 45, 97, 103, 101, 61]⟩ : ByteArray) ++ x5] : List ByteArray))).bind fun bt137 => ((sprlaw14_first.f k).bind fun t159 => (if t159 = true then (if x7 = true then (if bt128.2 = true then (if x6 = (mn x0 2147483648) then (if bt128.1 = x6 then (if bt130.2 = true then (some false) else (if bt132.2 = true then (some false) else (if bt137.2.2.2.2.2.2.2.2.2.2.2.1 = true then (some (bt137.2.2.2.2.2.2.2.2.2.2.2.2.1 == x6)) else (some false)))) else (some false)) else (some false)) else (some false)) else (some false)) else (some false)))) else (none))) else (none))) else (none)))
end
def sprlaw14_CcSeconds.f (k : Nat) (a0 : Int) (a1 : Int) : Option (Bool) := (sprlaw14_first.f k).bind fun t123 => (if t123 = true then (if a0 < 0 then (sprlaw14_CcSeconds.j0 k a0 a1 true) else (if a1 < 0 then (sprlaw14_CcSeconds.j0 k a0 a1 true) else (sprlaw14_CcSeconds.j0 k a0 a1 (decide (a1 > 100))))) else (some false))
theorem sprlaw14_CcSeconds.mono_l : ∀ k, (∀ y0 y1 y2, LeO (sprlaw14_CcSeconds.j0 k y0 y1 y2) (sprlaw14_CcSeconds.j0 (k + 1) y0 y1 y2)) ∧ (∀ y0 y1 y2 y3 y4 y5, LeO (sprlaw14_CcSeconds.l0 k y0 y1 y2 y3 y4 y5) (sprlaw14_CcSeconds.l0 (k + 1) y0 y1 y2 y3 y4 y5))
  | 0 => ⟨fun _ _ _ r h => by simp [sprlaw14_CcSeconds.j0] at h, fun _ _ _ _ _ _ r h => by simp [sprlaw14_CcSeconds.l0] at h⟩
  | k + 1 => by
    obtain ⟨ih0, ih1⟩ := sprlaw14_CcSeconds.mono_l k
    refine ⟨?_, ?_⟩
    · intro y0 y1 y2
      unfold sprlaw14_CcSeconds.j0
      repeat' first
      | (with_reducible exact ih0 _ _ _)
      | (with_reducible exact ih1 _ _ _ _ _ _)
      | (with_reducible exact cc_Parse.mono _ _)
      | (with_reducible exact cc_Seconds.mono _ _)
      | (with_reducible exact sprlaw14_first.mono _)
      | (with_reducible exact sprref_Dec.mono _ _)
      | (with_reducible exact LeO.refl _)
      | (with_reducible exact LeO.none _)
      | (with_reducible refine LeO.ite ?_ ?_)
      | (with_reducible refine LeO.bind ?_ (fun _ => ?_))
      | exact ih0 _ _ _
      | exact ih1 _ _ _ _ _ _
      | exact cc_Parse.mono _ _
      | exact cc_Seconds.mono _ _
      | exact sprlaw14_first.mono _
      | exact sprref_Dec.mono _ _
      | exact LeO.none _
      | refine LeO.ite ?_ ?_
      | refine LeO.bind ?_ (fun _ => ?_)
    · intro y0 y1 y2 y3 y4 y5
      unfold sprlaw14_CcSeconds.l0
      repeat' first
      | (with_reducible exact ih0 _ _ _)
      | (with_reducible exact ih1 _ _ _ _ _ _)
      | (with_reducible exact cc_Parse.mono _ _)
      | (with_reducible exact cc_Seconds.mono _ _)
      | (with_reducible exact sprlaw14_first.mono _)
      | (with_reducible exact sprref_Dec.mono _ _)
      | (with_reducible exact LeO.refl _)
      | (with_reducible exact LeO.none _)
      | (with_reducible refine LeO.ite ?_ ?_)
      | (with_reducible refine LeO.bind ?_ (fun _ => ?_))
      | exact ih0 _ _ _
      | exact ih1 _ _ _ _ _ _
      | exact cc_Parse.mono _ _
      | exact cc_Seconds.mono _ _
      | exact sprlaw14_first.mono _
      | exact sprref_Dec.mono _ _
      | exact LeO.none _
      | refine LeO.ite ?_ ?_
      | refine LeO.bind ?_ (fun _ => ?_)
theorem sprlaw14_CcSeconds.mono : ∀ a0 a1 k, LeO (sprlaw14_CcSeconds.f k a0 a1) (sprlaw14_CcSeconds.f (k + 1) a0 a1) := by
  intro a0 a1 k
  obtain ⟨ih0, ih1⟩ := sprlaw14_CcSeconds.mono_l k
  unfold sprlaw14_CcSeconds.f
  repeat' first
      | (with_reducible exact ih0 _ _ _)
      | (with_reducible exact ih1 _ _ _ _ _ _)
      | (with_reducible exact cc_Parse.mono _ _)
      | (with_reducible exact cc_Seconds.mono _ _)
      | (with_reducible exact sprlaw14_first.mono _)
      | (with_reducible exact sprref_Dec.mono _ _)
      | (with_reducible exact LeO.refl _)
      | (with_reducible exact LeO.none _)
      | (with_reducible refine LeO.ite ?_ ?_)
      | (with_reducible refine LeO.bind ?_ (fun _ => ?_))
      | exact ih0 _ _ _
      | exact ih1 _ _ _ _ _ _
      | exact cc_Parse.mono _ _
      | exact cc_Seconds.mono _ _
      | exact sprlaw14_first.mono _
      | exact sprref_Dec.mono _ _
      | exact LeO.none _
      | refine LeO.ite ?_ ?_
      | refine LeO.bind ?_ (fun _ => ?_)
set_option maxHeartbeats 8000000 in
set_option maxRecDepth 100000 in
theorem sprlaw14_CcSeconds.calls (k : Nat) (a0 : Int) (a1 : Int) (r : Bool) (w : World) (h : sprlaw14_CcSeconds.f k a0 a1 = some r) (hT : Aside0 (r = true)) :
    Calls Tryd.prog 6 #[.int .i64 a0, .int .i64 a1] w fun e w' => e = .returned (.bool r) ∧ Below w.heap.size w w' := by
  have hu35 := Tryd.underlying35
  have HB := Aside0.mk (Below.refl w.heap.size w)
  have H : ((sprlaw14_first.f k).bind fun t123 => (if t123 = true then (if a0 < 0 then (sprlaw14_CcSeconds.j0 k a0 a1 true) else (if a1 < 0 then (sprlaw14_CcSeconds.j0 k a0 a1 true) else (sprlaw14_CcSeconds.j0 k a0 a1 (decide (a1 > 100))))) else (some false))) = some r := h
  clear h
  replace H := Option.bind_eq_some_iff.mp H
  obtain ⟨t123, A30, H⟩ := H
  replace H : (if t123 = true then (if a0 < 0 then (sprlaw14_CcSeconds.j0 k a0 a1 true) else (if a1 < 0 then (sprlaw14_CcSeconds.j0 k a0 a1 true) else (sprlaw14_CcSeconds.j0 k a0 a1 (decide (a1 > 100))))) else (some false)) = some r := H
  have A3 := Aside0.mk A30
  clear A30
  by_cases c4 : t123 = true
  · subst c4
    have H1 : (if a0 < 0 then (sprlaw14_CcSeconds.j0 k a0 a1 true) else (if a1 < 0 then (sprlaw14_CcSeconds.j0 k a0 a1 true) else (sprlaw14_CcSeconds.j0 k a0 a1 (decide (a1 > 100))))) = some r := by rw [if_pos rfl] at H; exact H
    clear H
    have H := H1
    clear H1
    have HC5 := Aside0.mk H
    clear H
    go_enter Tryd.func6, Tryd.ntmps6
    go_upto_region 3 with (first | ((with_reducible refine gate_store (t := 35) rfl ?_); refine wpList_store_row rfl 35 _ _ rfl _ _ rfl rfl 35 _ (by first | exact blk_new _ _ | exact blk_alloc (blk_new _ _) _) (by kernel_rfl) rfl (by simp [Value.oneCell']) ?_; (first | rw [Own.alloc_setRow] | rw [Own.alloc2_setRow0] | rw [Own.alloc2_setRow1])) | ((with_reducible refine gate_callee (f := 8) rfl ?_); refine goesL_ (some 16) rfl rfl Tryd.func8 (by kernel_rfl) rfl #[] rfl (by (try simp only [List.map_toArray, List.map_cons, List.map_nil]); first | done | rfl | (simp only [List.length_drop, List.length_take]; rfl)) ?_; (with_reducible refine (sprlaw14_first.calls k  true _ A3.out).mono ?_); rintro e w6 ⟨rfl, hb⟩; refine ⟨_, rfl, ?_⟩; have n0_ := Aside0.mk (below_step (by repeat (first | (with_reducible first | exact HB.out | apply below_alloc | apply pw_below_drewN | apply below_drew1) | exact HB.out)) hb); clear HB; have HB := n0_; clear n0_; (try clear hb); (try clear hb2); (try clear hk); (try clear hi)))
    (try simp only [Act.put, List.setIfInBounds_toArray, List.set_cons_zero, List.set_cons_succ])
    go_cut [27] (fun v27 wc => ∃ (kq : Nat) (x27_4 : Bool), v27 = .bool x27_4 ∧ Aside0 (sprlaw14_CcSeconds.j0 kq a0 a1 x27_4 = some r) ∧ Aside0 (kq ≤ k) ∧ Aside0 (Below w.heap.size w wc))
    case first =>
      have H := HC5.out
      clear HC5
      by_cases c7 : a0 < 0
      · rw [if_pos c7] at H
        have c7b0 : decide (a0 < 0) = true := decide_eq_true c7
        clear c7
        (first | rw [c7b0] | (simp only [i64_w, i32_w]; rw [c7b0]) | skip)
        have H' := Aside0.mk H
        clear H
        go_wp2_with (first | ((with_reducible refine gate_store (t := 35) rfl ?_); refine wpList_store_row rfl 35 _ _ rfl _ _ rfl rfl 35 _ (by first | exact blk_new _ _ | exact blk_alloc (blk_new _ _) _) (by kernel_rfl) rfl (by simp [Value.oneCell']) ?_; (first | rw [Own.alloc_setRow] | rw [Own.alloc2_setRow0] | rw [Own.alloc2_setRow1])))
        go_meet
        case rel => exact ⟨_, (true), (by first | rfl | (simp; done) | (simp [*]; done)), H', ⟨by first | omega | exact Nat.le_refl _⟩, ⟨by repeat (first | (with_reducible first | exact HB.out | apply below_alloc | apply pw_below_drewN | apply below_drew1) | exact HB.out)⟩⟩
      · rw [if_neg c7] at H
        have c7b0 : decide (a0 < 0) = false := decide_eq_false c7
        clear c7
        (first | rw [c7b0] | (simp only [i64_w, i32_w]; rw [c7b0]) | skip)
        by_cases c8 : a1 < 0
        · rw [if_pos c8] at H
          have c8b0 : decide (a1 < 0) = true := decide_eq_true c8
          clear c8
          have H' := Aside0.mk H
          clear H
          go_wp2_with (first | ((with_reducible refine gate_store (t := 35) rfl ?_); refine wpList_store_row rfl 35 _ _ rfl _ _ rfl rfl 35 _ (by first | exact blk_new _ _ | exact blk_alloc (blk_new _ _) _) (by kernel_rfl) rfl (by simp [Value.oneCell']) ?_; (first | rw [Own.alloc_setRow] | rw [Own.alloc2_setRow0] | rw [Own.alloc2_setRow1])))
          go_meet
          case rel => exact ⟨_, (true), (by first | rfl | (simp; done) | (simp [*]; done)), H', ⟨by first | omega | exact Nat.le_refl _⟩, ⟨by repeat (first | (with_reducible first | exact HB.out | apply below_alloc | apply pw_below_drewN | apply below_drew1) | exact HB.out)⟩⟩
        · rw [if_neg c8] at H
          have c8b0 : decide (a1 < 0) = false := decide_eq_false c8
          clear c8
          have H' := Aside0.mk H
          clear H
          go_wp2_with (first | ((with_reducible refine gate_store (t := 35) rfl ?_); refine wpList_store_row rfl 35 _ _ rfl _ _ rfl rfl 35 _ (by first | exact blk_new _ _ | exact blk_alloc (blk_new _ _) _) (by kernel_rfl) rfl (by simp [Value.oneCell']) ?_; (first | rw [Own.alloc_setRow] | rw [Own.alloc2_setRow0] | rw [Own.alloc2_setRow1])))
          go_meet
          case rel => exact ⟨_, (decide (a1 > 100)), (by first | rfl | (simp; done) | (simp [*]; done)), H', ⟨by first | omega | exact Nat.le_refl _⟩, ⟨by repeat (first | (with_reducible first | exact HB.out | apply below_alloc | apply pw_below_drewN | apply below_drew1) | exact HB.out)⟩⟩
    case rest =>
      clear HC5
      try clear p2
      try clear c4
      try clear c6
      try clear c7
      try clear c7b0
      try clear c8
      try clear c8b0
      obtain ⟨kq, x27_4, rfl, HA, HJ4, HB⟩ := hcut
      cases kq with
      | zero => exact absurd HA.out (by simp [sprlaw14_CcSeconds.j0])
      | succ kj4 =>
        have H := HA.out
        clear HA
        simp only [sprlaw14_CcSeconds.j0] at H
        by_cases c9 : x27_4 = true
        · subst c9
          have H1 : ((sprlaw14_first.f kj4).bind fun t124 => (some t124)) = some r := by rw [if_pos rfl] at H; exact H
          clear H
          have H := H1
          clear H1
          replace H := Option.bind_eq_some_iff.mp H
          obtain ⟨t124, A100, H⟩ := H
          replace H : (some t124) = some r := H
          have A10 := Aside0.mk A100
          clear A100
          obtain rfl := Option.some.inj H
          go_wp2_with (first | ((with_reducible refine gate_store (t := 35) rfl ?_); refine wpList_store_row rfl 35 _ _ rfl _ _ rfl rfl 35 _ (by first | exact blk_new _ _ | exact blk_alloc (blk_new _ _) _) (by kernel_rfl) rfl (by simp [Value.oneCell']) ?_; (first | rw [Own.alloc_setRow] | rw [Own.alloc2_setRow0] | rw [Own.alloc2_setRow1])) | ((with_reducible refine gate_callee (f := 8) rfl ?_); refine goesL_ (some 28) rfl rfl Tryd.func8 (by kernel_rfl) rfl #[] rfl (by (try simp only [List.map_toArray, List.map_cons, List.map_nil]); first | done | rfl | (simp only [List.length_drop, List.length_take]; rfl)) ?_; (with_reducible refine (sprlaw14_first.calls kj4  t124 _ A10.out).mono ?_); rintro e w11 ⟨rfl, hb⟩; refine ⟨_, rfl, ?_⟩; have n0_ := Aside0.mk (below_step (by repeat (first | (with_reducible first | exact HB.out | apply below_alloc | apply pw_below_drewN | apply below_drew1) | exact HB.out)) hb); clear HB; have HB := n0_; clear n0_; (try clear hb); (try clear hb2); (try clear hk); (try clear hi)))
          go_ret
          exact ⟨by first | rfl | (simp [errW_none, errW_some] <;> rfl) | (simp [*, errW_none, errW_some] <;> rfl), by repeat (first | (with_reducible first | exact HB.out | apply below_alloc | apply pw_below_drewN | apply below_drew1) | exact HB.out)⟩
        · replace c9 := Bool.eq_false_iff.mpr c9
          subst c9
          have H1 : ((sprref_Dec.f kj4 a0).bind fun t125 => ((cc_Seconds.f kj4 t125).bind fun bt126 => (sprlaw14_CcSeconds.l0 kj4 a0 a1 t125 bt126.1 bt126.2 0))) = some r := by rw [if_neg (show ¬ (false = true) by decide)] at H; exact H
          clear H
          have H := H1
          clear H1
          replace H := Option.bind_eq_some_iff.mp H
          obtain ⟨t125, A120, H⟩ := H
          replace H : ((cc_Seconds.f kj4 t125).bind fun bt126 => (sprlaw14_CcSeconds.l0 kj4 a0 a1 t125 bt126.1 bt126.2 0)) = some r := H
          have A12 := Aside0.mk A120
          clear A120
          replace H := Option.bind_eq_some_iff.mp H
          obtain ⟨⟨t126, t127⟩, A130, H⟩ := H
          replace H : (sprlaw14_CcSeconds.l0 kj4 a0 a1 t125 t126 t127 0) = some r := H
          have A13 := Aside0.mk A130
          clear A130
          have H' := Aside0.mk H
          clear H
          go_wp2_with (first | ((with_reducible refine gate_store (t := 35) rfl ?_); refine wpList_store_row rfl 35 _ _ rfl _ _ rfl rfl 35 _ (by first | exact blk_new _ _ | exact blk_alloc (blk_new _ _) _) (by kernel_rfl) rfl (by simp [Value.oneCell']) ?_; (first | rw [Own.alloc_setRow] | rw [Own.alloc2_setRow0] | rw [Own.alloc2_setRow1])) | ((with_reducible refine gate_callee (f := 18) rfl ?_); refine goesL_ (some 30) rfl rfl Tryd.func18 (by kernel_rfl) rfl #[.int .i64 a0] rfl (by (try simp only [List.map_toArray, List.map_cons, List.map_nil]); first | done | rfl | (simp only [List.length_drop, List.length_take]; rfl)) ?_; (with_reducible refine (sprref_Dec.calls kj4 a0 t125 _ A12.out).mono ?_); rintro e w14 ⟨rfl, hb⟩; refine ⟨_, rfl, ?_⟩; have n0_ := Aside0.mk (below_step (by repeat (first | (with_reducible first | exact HB.out | apply below_alloc | apply pw_below_drewN | apply below_drew1) | exact HB.out)) hb); clear HB; have HB := n0_; clear n0_; (try clear hb); (try clear hb2); (try clear hk); (try clear hi)) | ((with_reducible refine gate_callee (f := 11) rfl ?_); refine goesL_ (some 33) rfl rfl Tryd.func11 (by kernel_rfl) rfl #[.string t125] rfl (by (try simp only [List.map_toArray, List.map_cons, List.map_nil]); first | done | rfl | (simp only [List.length_drop, List.length_take]; rfl)) ?_; (with_reducible refine (cc_Seconds.calls kj4 t125 t126 t127 _ A13.out).mono ?_); rintro e w15 ⟨rfl, hb⟩; refine ⟨_, rfl, ?_⟩; have n0_ := Aside0.mk (below_step (by repeat (first | (with_reducible first | exact HB.out | apply below_alloc | apply pw_below_drewN | apply below_drew1) | exact HB.out)) hb); clear HB; have HB := n0_; clear n0_; (try clear hb); (try clear hb2); (try clear hk); (try clear hi)))
          go_loopg [5, 8] kj4 (fun kq v5 v8 w' => ∃ (x5_2 : ByteArray) (x8_2 : Int), v5 = .string x5_2 ∧ v8 = .int .i64 x8_2 ∧ Aside0 (sprlaw14_CcSeconds.l0 kq a0 a1 x5_2 t126 t127 x8_2 = some r) ∧ Aside0 (kq ≤ kj4) ∧ Aside0 (Below w.heap.size w w'))
          case atStart => exact ⟨(t125), (0), (by first | rfl | (simp; done) | (simp [*]; done)), (by first | rfl | (simp; done) | (simp [*]; done)), H', ⟨Nat.le_refl _⟩, ⟨by repeat (first | (with_reducible first | exact HB.out | apply below_alloc | apply pw_below_drewN | apply below_drew1) | exact HB.out)⟩⟩
          case round =>
            clear H'
            try clear c1
            try clear p2
            try clear c4
            try clear c6
            try clear c7
            try clear c7b0
            try clear c8
            try clear c8b0
            try clear c9
            try clear c11
            try clear p2
            obtain ⟨x5_2, x8_2, rfl, rfl, HA, HK2, HB⟩ := hrel
            cases gk with
            | zero => exact absurd HA.out (by simp [sprlaw14_CcSeconds.l0])
            | succ k2 =>
              have H := HA.out
              clear HA
              simp only [sprlaw14_CcSeconds.l0] at H
              by_cases c16 : x8_2 < a1
              · rw [if_pos c16] at H
                have c16b0 : decide (x8_2 < a1) = true := decide_eq_true c16
                clear c16
                by_cases c17 : 1 + x5_2.size ≤ 9223372036854775807
                · rw [if_pos c17] at H
                  have c17b0 := eq_true c17
                  have c17b1 : decide (1 + x5_2.size ≤ 9223372036854775807) = true := decide_eq_true c17
                  try have c17b2 : (9223372036854775807 < 1 + x5_2.size) = False := eq_false (Nat.not_lt.2 c17)
                  have H' := Aside0.mk H
                  clear H
                  go_wp2_with (first | ((with_reducible refine gate_store (t := 35) rfl ?_); refine wpList_store_row rfl 35 _ _ rfl _ _ rfl rfl 35 _ (by first | exact blk_new _ _ | exact blk_alloc (blk_new _ _) _) (by kernel_rfl) rfl (by simp [Value.oneCell']) ?_; (first | rw [Own.alloc_setRow] | rw [Own.alloc2_setRow0] | rw [Own.alloc2_setRow1])))
                  go_roundg k2
                  case measure => have := HJ4.out; have := HK2.out; omega
                  case rel => exact ⟨((⟨#[48]⟩ : ByteArray) ++ x5_2), (wrap64 (x8_2 + 1)), (by first | rfl | (simp; done) | (simp [*]; done)), (by first | rfl | (simp; done) | (simp [*]; done)), H', ⟨by have := HJ4.out; have := HK2.out; omega⟩, ⟨by repeat (first | (with_reducible first | exact HB.out | apply below_alloc | apply pw_below_drewN | apply below_drew1) | exact HB.out)⟩⟩
                · rw [if_neg c17] at H
                  exact absurd H (by simp)
              · rw [if_neg c16] at H
                have c16b0 : decide (x8_2 < a1) = false := decide_eq_false c16
                clear c16
                replace H := Option.bind_eq_some_iff.mp H
                obtain ⟨⟨t128, t129⟩, A180, H⟩ := H
                replace H : (if 1 + x5_2.size ≤ 9223372036854775807 then ((cc_Seconds.f k2 ((⟨#[45]⟩ : ByteArray) ++ x5_2)).bind fun bt130 => (if x5_2.size + 1 ≤ 9223372036854775807 then ((cc_Seconds.f k2 (x5_2 ++ (⟨#[32]⟩ : ByteArray))).bind fun bt132 => (if 8 + x5_2.size ≤ 9223372036854775807 then ((cc_Parse.f k2 (([(⟨#[109, 97, 120, 45, 97, 103, 101, 61]⟩ : ByteArray) ++ x5_2] : List ByteArray))).bind fun bt137 => ((sprlaw14_first.f k2).bind fun t159 => (if t159 = true then (if t127 = true then (if t129 = true then (if t126 = (mn a0 2147483648) then (if t128 = t126 then (if bt130.2 = true then (some false) else (if bt132.2 = true then (some false) else (if bt137.2.2.2.2.2.2.2.2.2.2.2.1 = true then (some (bt137.2.2.2.2.2.2.2.2.2.2.2.2.1 == t126)) else (some false)))) else (some false)) else (some false)) else (some false)) else (some false)) else (some false)))) else (none))) else (none))) else (none)) = some r := H
                have A18 := Aside0.mk A180
                clear A180
                by_cases c19 : 1 + x5_2.size ≤ 9223372036854775807
                · rw [if_pos c19] at H
                  have c19b0 := eq_true c19
                  have c19b1 : decide (1 + x5_2.size ≤ 9223372036854775807) = true := decide_eq_true c19
                  try have c19b2 : (9223372036854775807 < 1 + x5_2.size) = False := eq_false (Nat.not_lt.2 c19)
                  replace H := Option.bind_eq_some_iff.mp H
                  obtain ⟨⟨t130, t131⟩, A200, H⟩ := H
                  replace H : (if x5_2.size + 1 ≤ 9223372036854775807 then ((cc_Seconds.f k2 (x5_2 ++ (⟨#[32]⟩ : ByteArray))).bind fun bt132 => (if 8 + x5_2.size ≤ 9223372036854775807 then ((cc_Parse.f k2 (([(⟨#[109, 97, 120, 45, 97, 103, 101, 61]⟩ : ByteArray) ++ x5_2] : List ByteArray))).bind fun bt137 => ((sprlaw14_first.f k2).bind fun t159 => (if t159 = true then (if t127 = true then (if t129 = true then (if t126 = (mn a0 2147483648) then (if t128 = t126 then (if t131 = true then (some false) else (if bt132.2 = true then (some false) else (if bt137.2.2.2.2.2.2.2.2.2.2.2.1 = true then (some (bt137.2.2.2.2.2.2.2.2.2.2.2.2.1 == t126)) else (some false)))) else (some false)) else (some false)) else (some false)) else (some false)) else (some false)))) else (none))) else (none)) = some r := H
                  have A20 := Aside0.mk A200
                  clear A200
                  by_cases c21 : x5_2.size + 1 ≤ 9223372036854775807
                  · rw [if_pos c21] at H
                    have c21b0 := eq_true c21
                    have c21b1 : decide (x5_2.size + 1 ≤ 9223372036854775807) = true := decide_eq_true c21
                    try have c21b2 : (9223372036854775807 < x5_2.size + 1) = False := eq_false (Nat.not_lt.2 c21)
                    replace H := Option.bind_eq_some_iff.mp H
                    obtain ⟨⟨t132, t133⟩, A220, H⟩ := H
                    replace H : (if 8 + x5_2.size ≤ 9223372036854775807 then ((cc_Parse.f k2 (([(⟨#[109, 97, 120, 45, 97, 103, 101, 61]⟩ : ByteArray) ++ x5_2] : List ByteArray))).bind fun bt137 => ((sprlaw14_first.f k2).bind fun t159 => (if t159 = true then (if t127 = true then (if t129 = true then (if t126 = (mn a0 2147483648) then (if t128 = t126 then (if t131 = true then (some false) else (if t133 = true then (some false) else (if bt137.2.2.2.2.2.2.2.2.2.2.2.1 = true then (some (bt137.2.2.2.2.2.2.2.2.2.2.2.2.1 == t126)) else (some false)))) else (some false)) else (some false)) else (some false)) else (some false)) else (some false)))) else (none)) = some r := H
                    have A22 := Aside0.mk A220
                    clear A220
                    by_cases c23 : 8 + x5_2.size ≤ 9223372036854775807
                    · rw [if_pos c23] at H
                      have c23b0 := eq_true c23
                      have c23b1 : decide (8 + x5_2.size ≤ 9223372036854775807) = true := decide_eq_true c23
                      try have c23b2 : (9223372036854775807 < 8 + x5_2.size) = False := eq_false (Nat.not_lt.2 c23)
                      obtain ⟨y134, hy134⟩ : ∃ y_ : List ByteArray, y_ = (([(⟨#[109, 97, 120, 45, 97, 103, 101, 61]⟩ : ByteArray) ++ x5_2] : List ByteArray)) := ⟨_, rfl⟩
                      replace H : ((cc_Parse.f k2 y134).bind fun bt137 => ((sprlaw14_first.f k2).bind fun t159 => (if t159 = true then (if t127 = true then (if t129 = true then (if t126 = (mn a0 2147483648) then (if t128 = t126 then (if t131 = true then (some false) else (if t133 = true then (some false) else (if bt137.2.2.2.2.2.2.2.2.2.2.2.1 = true then (some (bt137.2.2.2.2.2.2.2.2.2.2.2.2.1 == t126)) else (some false)))) else (some false)) else (some false)) else (some false)) else (some false)) else (some false)))) = some r := by first | (rw [hy134]; with_reducible exact H) | (have H2_ := (Option.bind_some _ _).symm.trans H; rw [hy134]; with_reducible exact H2_) | (have H2_ := (Option.bind_some _ _).symm.trans H; with_reducible exact H2_) | with_reducible exact H | (rw [hy134]; exact H) | exact H
                      have Ny134 := Aside0.mk hy134
                      clear hy134
                      replace H := Option.bind_eq_some_iff.mp H
                      obtain ⟨⟨t137, t138, t139, t140, t141, t142, t143, t144, t145, t146, t147, t148, t149, t150, t151, t152, t153, t154, t155, t156, t157⟩, A240, H⟩ := H
                      replace H : ((sprlaw14_first.f k2).bind fun t159 => (if t159 = true then (if t127 = true then (if t129 = true then (if t126 = (mn a0 2147483648) then (if t128 = t126 then (if t131 = true then (some false) else (if t133 = true then (some false) else (if t148 = true then (some (t149 == t126)) else (some false)))) else (some false)) else (some false)) else (some false)) else (some false)) else (some false))) = some r := H
                      have A24 := Aside0.mk A240
                      clear A240
                      replace H := Option.bind_eq_some_iff.mp H
                      obtain ⟨t159, A250, H⟩ := H
                      replace H : (if t159 = true then (if t127 = true then (if t129 = true then (if t126 = (mn a0 2147483648) then (if t128 = t126 then (if t131 = true then (some false) else (if t133 = true then (some false) else (if t148 = true then (some (t149 == t126)) else (some false)))) else (some false)) else (some false)) else (some false)) else (some false)) else (some false)) = some r := H
                      have A25 := Aside0.mk A250
                      clear A250
                      by_cases c26 : t159 = true
                      · subst c26
                        have H1 : (if t127 = true then (if t129 = true then (if t126 = (mn a0 2147483648) then (if t128 = t126 then (if t131 = true then (some false) else (if t133 = true then (some false) else (if t148 = true then (some (t149 == t126)) else (some false)))) else (some false)) else (some false)) else (some false)) else (some false)) = some r := by rw [if_pos rfl] at H; exact H
                        clear H
                        have H := H1
                        clear H1
                        by_cases c27 : t127 = true
                        · subst c27
                          have H1 : (if t129 = true then (if t126 = (mn a0 2147483648) then (if t128 = t126 then (if t131 = true then (some false) else (if t133 = true then (some false) else (if t148 = true then (some (t149 == t126)) else (some false)))) else (some false)) else (some false)) else (some false)) = some r := by rw [if_pos rfl] at H; exact H
                          clear H
                          have H := H1
                          clear H1
                          by_cases c28 : t129 = true
                          · subst c28
                            have H1 : (if t126 = (mn a0 2147483648) then (if t128 = t126 then (if t131 = true then (some false) else (if t133 = true then (some false) else (if t148 = true then (some (t149 == t126)) else (some false)))) else (some false)) else (some false)) = some r := by rw [if_pos rfl] at H; exact H
                            clear H
                            have H := H1
                            clear H1
                            obtain ⟨ji29, hji29⟩ : ∃ j_ : Int, (mn a0 2147483648) = j_ := ⟨_, rfl⟩
                            replace H : (if t126 = (ji29) then (if t128 = t126 then (if t131 = true then (some false) else (if t133 = true then (some false) else (if t148 = true then (some (t149 == t126)) else (some false)))) else (some false)) else (some false)) = some r := by first | (rw [hji29] at H; exact H) | (simp only [hji29] at H ⊢; exact H)
                            (try rw [hji29] at A18)
                            (try rw [hji29] at A20)
                            (try rw [hji29] at A22)
                            (try rw [hji29] at A24)
                            (try rw [hji29] at A25)
                            have hji29_ : (if 2147483648 < a0 then 2147483648 else a0) = ji29 := hji29
                            by_cases c30 : t126 = (ji29)
                            · rw [if_pos c30] at H
                              have c30b0 : (t126 == (ji29)) = true := beq_iff_eq.mpr c30
                              have c30b1 : (t126 != (ji29)) = false := bne_eq_false_iff_eq.mpr c30
                              clear c30
                              by_cases c31 : t128 = t126
                              · rw [if_pos c31] at H
                                have c31b0 : (t128 == t126) = true := beq_iff_eq.mpr c31
                                have c31b1 : (t128 != t126) = false := bne_eq_false_iff_eq.mpr c31
                                clear c31
                                by_cases c32 : t131 = true
                                · subst c32
                                  have H1 : (some false) = some r := by rw [if_pos rfl] at H; exact H
                                  clear H
                                  have H := H1
                                  clear H1
                                  exact absurd ((Option.some.inj H).trans hT.out) (by decide)
                                · replace c32 := Bool.eq_false_iff.mpr c32
                                  subst c32
                                  have H1 : (if t133 = true then (some false) else (if t148 = true then (some (t149 == t126)) else (some false))) = some r := by rw [if_neg (show ¬ (false = true) by decide)] at H; exact H
                                  clear H
                                  have H := H1
                                  clear H1
                                  by_cases c33 : t133 = true
                                  · subst c33
                                    have H1 : (some false) = some r := by rw [if_pos rfl] at H; exact H
                                    clear H
                                    have H := H1
                                    clear H1
                                    exact absurd ((Option.some.inj H).trans hT.out) (by decide)
                                  · replace c33 := Bool.eq_false_iff.mpr c33
                                    subst c33
                                    have H1 : (if t148 = true then (some (t149 == t126)) else (some false)) = some r := by rw [if_neg (show ¬ (false = true) by decide)] at H; exact H
                                    clear H
                                    have H := H1
                                    clear H1
                                    by_cases c34 : t148 = true
                                    · subst c34
                                      have H1 : (some (t149 == t126)) = some r := by rw [if_pos rfl] at H; exact H
                                      clear H
                                      have H := H1
                                      clear H1
                                      obtain rfl := Option.some.inj H
                                      go_wp2_with (first | ((with_reducible refine gate_store (t := 35) rfl ?_); refine wpList_store_row rfl 35 _ _ rfl _ #[.bool t137, .bool t138, .bool t139, .bool t140, .bool t141, .bool t142, .bool t143, .bool t144, .bool t145, .bool t146, .bool t147, .bool true, .int .i64 t149, .bool t150, .int .i64 t151, .bool t152, .int .i64 t153, .bool t154, .int .i64 t155, .bool t156, .int .i64 t157] rfl rfl 35 _ BK158.out (by kernel_rfl) rfl (by simp [Value.oneCell']) ?_; obtain ⟨wrow, hwrow⟩ : ∃ wr_, wr_ = World.setRow w42 gb158 #[.bool t137, .bool t138, .bool t139, .bool t140, .bool t141, .bool t142, .bool t143, .bool t144, .bool t145, .bool t146, .bool t147, .bool true, .int .i64 t149, .bool t150, .int .i64 t151, .bool t152, .int .i64 t153, .bool t154, .int .i64 t155, .bool t156, .int .i64 t157] := ⟨_, rfl⟩; rw [← hwrow]; have HBrow := Aside0.mk (by rw [hwrow]; exact cc_below_setRow HB.out GW158.out _ : Below w.heap.size w wrow); have BKrow : wrow.heap[gb158]? = some (.cells #[.bool t137, .bool t138, .bool t139, .bool t140, .bool t141, .bool t142, .bool t143, .bool t144, .bool t145, .bool t146, .bool t147, .bool true, .int .i64 t149, .bool t150, .int .i64 t151, .bool t152, .int .i64 t153, .bool t154, .int .i64 t155, .bool t156, .int .i64 t157] 35 (0, 0)) := (by rw [hwrow]; exact setRow_heap _ _ _ _ _ _ BK158.out); clear hwrow HB; have HB := HBrow; clear HBrow; clear hcz43_0 hcz43_1 hcz43_2 hcz43_3 hcz43_4 hcz43_5 hcz43_6 hcz43_7 hcz43_8 hcz43_9 hcz43_10 hcz43_11 hcz43_12 hcz43_13 hcz43_14 hcz43_15 hcz43_16 hcz43_17 hcz43_18 hcz43_19 hcz43_20 hfz43_0 hfz43_1 hfz43_2 hfz43_3 hfz43_4 hfz43_5 hfz43_6 hfz43_7 hfz43_8 hfz43_9 hfz43_10 hfz43_11 hfz43_12 hfz43_13 hfz43_14 hfz43_15 hfz43_16 hfz43_17 hfz43_18 hfz43_19 hfz43_20; have BKr := Aside0.mk BKrow; have hrow_11 : wrow.cell? ⟨gb158, 11, none⟩ = some (.bool true) := (blk_cell BKrow 11).trans rfl; have hrow_12 : wrow.cell? ⟨gb158, 12, none⟩ = some (.int .i64 t149) := (blk_cell BKrow 12).trans rfl; clear BKrow) | ((with_reducible refine gate_callee (f := 8) rfl ?_); refine goesL_ (some 64) rfl rfl Tryd.func8 (by kernel_rfl) rfl #[] rfl (by (try simp only [List.map_toArray, List.map_cons, List.map_nil]); first | done | rfl | (simp only [List.length_drop, List.length_take]; rfl)) ?_; (with_reducible refine (sprlaw14_first.calls k2  true _ A25.out).mono ?_); rintro e w44 ⟨rfl, hb⟩; refine ⟨_, rfl, ?_⟩; have HBn := Aside0.mk (HB.out.trans (hb.mono HB.out.size)); have BKn := blk_below BKr.out hb; clear HB hrow_11 hrow_12; have HB := HBn; clear HBn; have hrow_11 : w44.cell? ⟨gb158, 11, none⟩ = some (.bool true) := (blk_cell BKn 11).trans rfl; have hrow_12 : w44.cell? ⟨gb158, 12, none⟩ = some (.int .i64 t149) := (blk_cell BKn 12).trans rfl; clear BKn BKr hb) | ((with_reducible refine gate_callee (f := 11) rfl ?_); refine goesL_ (some 45) rfl rfl Tryd.func11 (by kernel_rfl) rfl #[.string x5_2] rfl (by (try simp only [List.map_toArray, List.map_cons, List.map_nil]); first | done | rfl | (simp only [List.length_drop, List.length_take]; rfl)) ?_; (with_reducible refine (cc_Seconds.calls k2 x5_2 t128 true _ A18.out).mono ?_); rintro e w35 ⟨rfl, hb⟩; refine ⟨_, rfl, ?_⟩; have n0_ := Aside0.mk (below_step (by repeat (first | (with_reducible first | exact HB.out | apply below_alloc | apply pw_below_drewN | apply below_drew1) | exact HB.out)) hb); clear HB; have HB := n0_; clear n0_; (try clear hb); (try clear hb2); (try clear hk); (try clear hi)) | ((with_reducible refine gate_callee (f := 11) rfl ?_); refine goesL_ (some 51) rfl rfl Tryd.func11 (by kernel_rfl) rfl #[.string ((⟨#[45]⟩ : ByteArray) ++ x5_2)] rfl (by (try simp only [List.map_toArray, List.map_cons, List.map_nil]); first | done | rfl | (simp only [List.length_drop, List.length_take]; rfl)) ?_; (with_reducible refine (cc_Seconds.calls k2 ((⟨#[45]⟩ : ByteArray) ++ x5_2) t130 false _ A20.out).mono ?_); rintro e w36 ⟨rfl, hb⟩; refine ⟨_, rfl, ?_⟩; have n0_ := Aside0.mk (below_step (by repeat (first | (with_reducible first | exact HB.out | apply below_alloc | apply pw_below_drewN | apply below_drew1) | exact HB.out)) hb); clear HB; have HB := n0_; clear n0_; (try clear hb); (try clear hb2); (try clear hk); (try clear hi)) | ((with_reducible refine gate_callee (f := 11) rfl ?_); refine goesL_ (some 57) rfl rfl Tryd.func11 (by kernel_rfl) rfl #[.string (x5_2 ++ (⟨#[32]⟩ : ByteArray))] rfl (by (try simp only [List.map_toArray, List.map_cons, List.map_nil]); first | done | rfl | (simp only [List.length_drop, List.length_take]; rfl)) ?_; (with_reducible refine (cc_Seconds.calls k2 (x5_2 ++ (⟨#[32]⟩ : ByteArray)) t132 false _ A22.out).mono ?_); rintro e w37 ⟨rfl, hb⟩; refine ⟨_, rfl, ?_⟩; have n0_ := Aside0.mk (below_step (by repeat (first | (with_reducible first | exact HB.out | apply below_alloc | apply pw_below_drewN | apply below_drew1) | exact HB.out)) hb); clear HB; have HB := n0_; clear n0_; (try clear hb); (try clear hb2); (try clear hk); (try clear hi)) | ((with_reducible refine gate_dst (N := 62) rfl ?_); (try (refine gate_guard (by rfl) ?_; dsimp only)); refine Kd.R_lit Kd.string _ 9 ?hg (N := 62) ?hd (xs := ([(⟨#[109, 97, 120, 45, 97, 103, 101, 61]⟩ : ByteArray) ++ x5_2] : List ByteArray)) (inner := [.string ((⟨#[109, 97, 120, 45, 97, 103, 101, 61]⟩ : ByteArray) ++ x5_2)]) (ok := fun _ => True) (okp := fun _ => True) ?hr ?hp (fun _ hk => hk) trivial (Below.refl _ _) (Nat.le_refl _) (by simp) ?_; (case hd => rfl); (case hg => rfl); (case hr => first | (go_simp; done) | (go_simp; rfl)); (case hp => exact (Reps.one (show Kd.M Kd.string _ _ _ ((⟨#[109, 97, 120, 45, 97, 103, 101, 61]⟩ : ByteArray) ++ x5_2) [.string ((⟨#[109, 97, 120, 45, 97, 103, 101, 61]⟩ : ByteArray) ++ x5_2)] from rfl) (Reps.none _ _))); intro v135 w38 ho39 hb hg_ hnew_; clear hg_ hnew_; (first | rw [← Ny134.out] at ho39 | (simp only [Int.reduceToNat] at ho39; rw [← Ny134.out] at ho39)); have n0_ := Aside0.mk (Kd.R_lower ho39 (below_size (by repeat (first | (with_reducible first | exact HB.out | apply below_alloc | apply pw_below_drewN | apply below_drew1) | exact HB.out)))); have n1_ := Aside0.mk (below_step (by repeat (first | (with_reducible first | exact HB.out | apply below_alloc | apply pw_below_drewN | apply below_drew1) | exact HB.out)) hb); clear HB; have HO136 := n0_; have HB := n1_; clear n0_ n1_; clear hb ho39; obtain ⟨Ao40, co40, eo40⟩ := Kd.R_slice HO136.out; subst eo40) | ((with_reducible refine gate_callee (f := 14) rfl ?_); refine goesL_ (some 63) rfl rfl Tryd.func14 (by kernel_rfl) rfl #[.slice Ao40 y134.length co40] rfl (by (try simp only [List.map_toArray, List.map_cons, List.map_nil]); first | done | rfl | (simp only [List.length_drop, List.length_take]; rfl)) ?_; (with_reducible refine (cc_Parse.calls k2 _ _ y134 t137 t138 t139 t140 t141 t142 t143 t144 t145 t146 t147 true t149 t150 t151 t152 t153 t154 t155 t156 t157 _ ?side1 ?side2 A24.out).mono ?_); (case side1 => repeat (first | exact (Kd.R_reads' HO136.out).2.2 | (with_reducible refine Kd.C_alloc ?_ _) | (with_reducible refine Kd.C_drewN ?_ _) | (with_reducible refine Kd.C_drew ?_))); (case side2 => exact (Kd.R_reads' HO136.out).2.1); rintro e w41 ⟨rfl, hb⟩; refine ⟨_, rfl, ?_⟩; have n0_ := Aside0.mk (Kd.R_below (by (with_reducible repeat (first | apply Kd.R_alloc | apply Kd.R_drewN | apply Kd.R_drew)); exact HO136.out) hb); have n1_ := Aside0.mk (below_step (by repeat (first | (with_reducible first | exact HB.out | apply below_alloc | apply pw_below_drewN | apply below_drew1) | exact HB.out)) hb); clear HO136; clear HB; have HO136 := n0_; have HB := n1_; clear n0_ n1_; (try clear hb); (try clear hb2); (try clear hk); (try clear hi)) | ((with_reducible refine gate_dst (N := 15) rfl ?_); (try (refine gate_guard (by rfl) ?_; dsimp only)); refine box_event ?hg (N := 15) ?hd (cs := #[.bool false, .bool false, .bool false, .bool false, .bool false, .bool false, .bool false, .bool false, .bool false, .bool false, .bool false, .bool false, .int .i64 0, .bool false, .int .i64 0, .bool false, .int .i64 0, .bool false, .int .i64 0, .bool false, .int .i64 0]) (t := 35) ?hr ?_; (case hd => rfl); (case hg => rfl); (case hr => first | (go_simp; done) | (go_simp; rfl)); intro gb158 hg w42 hbox hb; have n0_ := Aside0.mk (Kd.R_below (by (with_reducible repeat (first | apply Kd.R_alloc | apply Kd.R_drewN | apply Kd.R_drew)); exact HO136.out) hb); have n1_ := Aside0.mk (below_step (by repeat (first | (with_reducible first | exact HB.out | apply below_alloc | apply pw_below_drewN | apply below_drew1) | exact HB.out)) hb); have n2_ := Aside0.mk (hbox); have n3_ := Aside0.mk ((by rw [hg]; exact (below_size (by repeat (first | (with_reducible first | exact HB.out | apply below_alloc | apply pw_below_drewN | apply below_drew1) | exact HB.out))) : w.heap.size ≤ gb158)); have n4_ := Aside0.mk ((by rw [hg]; exact (below_size (by repeat (first | (with_reducible first | exact HB.out | apply below_alloc | apply pw_below_drewN | apply below_drew1) | exact HB.out))) : w.heap.size ≤ gb158)); clear HO136; clear HB; have HO136 := n0_; have HB := n1_; have BK158 := n2_; have GW158 := n3_; have GE158 := n4_; clear n0_ n1_ n2_ n3_ n4_; clear hb hbox hg; have hcz43_0 : w42.cell? ⟨gb158, 0, none⟩ = some (.bool false) := (blk_cell BK158.out 0).trans rfl; have hcz43_1 : w42.cell? ⟨gb158, 1, none⟩ = some (.bool false) := (blk_cell BK158.out 1).trans rfl; have hcz43_2 : w42.cell? ⟨gb158, 2, none⟩ = some (.bool false) := (blk_cell BK158.out 2).trans rfl; have hcz43_3 : w42.cell? ⟨gb158, 3, none⟩ = some (.bool false) := (blk_cell BK158.out 3).trans rfl; have hcz43_4 : w42.cell? ⟨gb158, 4, none⟩ = some (.bool false) := (blk_cell BK158.out 4).trans rfl; have hcz43_5 : w42.cell? ⟨gb158, 5, none⟩ = some (.bool false) := (blk_cell BK158.out 5).trans rfl; have hcz43_6 : w42.cell? ⟨gb158, 6, none⟩ = some (.bool false) := (blk_cell BK158.out 6).trans rfl; have hcz43_7 : w42.cell? ⟨gb158, 7, none⟩ = some (.bool false) := (blk_cell BK158.out 7).trans rfl; have hcz43_8 : w42.cell? ⟨gb158, 8, none⟩ = some (.bool false) := (blk_cell BK158.out 8).trans rfl; have hcz43_9 : w42.cell? ⟨gb158, 9, none⟩ = some (.bool false) := (blk_cell BK158.out 9).trans rfl; have hcz43_10 : w42.cell? ⟨gb158, 10, none⟩ = some (.bool false) := (blk_cell BK158.out 10).trans rfl; have hcz43_11 : w42.cell? ⟨gb158, 11, none⟩ = some (.bool false) := (blk_cell BK158.out 11).trans rfl; have hcz43_12 : w42.cell? ⟨gb158, 12, none⟩ = some (.int .i64 0) := (blk_cell BK158.out 12).trans rfl; have hcz43_13 : w42.cell? ⟨gb158, 13, none⟩ = some (.bool false) := (blk_cell BK158.out 13).trans rfl; have hcz43_14 : w42.cell? ⟨gb158, 14, none⟩ = some (.int .i64 0) := (blk_cell BK158.out 14).trans rfl; have hcz43_15 : w42.cell? ⟨gb158, 15, none⟩ = some (.bool false) := (blk_cell BK158.out 15).trans rfl; have hcz43_16 : w42.cell? ⟨gb158, 16, none⟩ = some (.int .i64 0) := (blk_cell BK158.out 16).trans rfl; have hcz43_17 : w42.cell? ⟨gb158, 17, none⟩ = some (.bool false) := (blk_cell BK158.out 17).trans rfl; have hcz43_18 : w42.cell? ⟨gb158, 18, none⟩ = some (.int .i64 0) := (blk_cell BK158.out 18).trans rfl; have hcz43_19 : w42.cell? ⟨gb158, 19, none⟩ = some (.bool false) := (blk_cell BK158.out 19).trans rfl; have hcz43_20 : w42.cell? ⟨gb158, 20, none⟩ = some (.int .i64 0) := (blk_cell BK158.out 20).trans rfl; have hfz43_0 := blk_frozen BK158.out 0; have hfz43_1 := blk_frozen BK158.out 1; have hfz43_2 := blk_frozen BK158.out 2; have hfz43_3 := blk_frozen BK158.out 3; have hfz43_4 := blk_frozen BK158.out 4; have hfz43_5 := blk_frozen BK158.out 5; have hfz43_6 := blk_frozen BK158.out 6; have hfz43_7 := blk_frozen BK158.out 7; have hfz43_8 := blk_frozen BK158.out 8; have hfz43_9 := blk_frozen BK158.out 9; have hfz43_10 := blk_frozen BK158.out 10; have hfz43_11 := blk_frozen BK158.out 11; have hfz43_12 := blk_frozen BK158.out 12; have hfz43_13 := blk_frozen BK158.out 13; have hfz43_14 := blk_frozen BK158.out 14; have hfz43_15 := blk_frozen BK158.out 15; have hfz43_16 := blk_frozen BK158.out 16; have hfz43_17 := blk_frozen BK158.out 17; have hfz43_18 := blk_frozen BK158.out 18; have hfz43_19 := blk_frozen BK158.out 19; have hfz43_20 := blk_frozen BK158.out 20))
                                      go_ret
                                      exact ⟨by first | rfl | (simp [errW_none, errW_some] <;> rfl) | (simp only [← hji29]; first | rfl | (simp [errW_none, errW_some] <;> rfl)) | (simp [*, errW_none, errW_some] <;> rfl), by repeat (first | (with_reducible first | exact HB.out | apply below_alloc | apply pw_below_drewN | apply below_drew1 | refine below_set ?_ GE158.out) | exact HB.out)⟩
                                    · replace c34 := Bool.eq_false_iff.mpr c34
                                      subst c34
                                      have H1 : (some false) = some r := by rw [if_neg (show ¬ (false = true) by decide)] at H; exact H
                                      clear H
                                      have H := H1
                                      clear H1
                                      exact absurd ((Option.some.inj H).trans hT.out) (by decide)
                              · rw [if_neg c31] at H
                                have c31b0 : (t128 == t126) = false := beq_eq_false_iff_ne.mpr c31
                                have c31b1 : (t128 != t126) = true := bne_iff_ne.mpr c31
                                exact absurd ((Option.some.inj H).trans hT.out) (by decide)
                            · rw [if_neg c30] at H
                              have c30b0 : (t126 == (ji29)) = false := beq_eq_false_iff_ne.mpr c30
                              have c30b1 : (t126 != (ji29)) = true := bne_iff_ne.mpr c30
                              exact absurd ((Option.some.inj H).trans hT.out) (by decide)
                          · replace c28 := Bool.eq_false_iff.mpr c28
                            subst c28
                            have H1 : (some false) = some r := by rw [if_neg (show ¬ (false = true) by decide)] at H; exact H
                            clear H
                            have H := H1
                            clear H1
                            exact absurd ((Option.some.inj H).trans hT.out) (by decide)
                        · replace c27 := Bool.eq_false_iff.mpr c27
                          subst c27
                          have H1 : (some false) = some r := by rw [if_neg (show ¬ (false = true) by decide)] at H; exact H
                          clear H
                          have H := H1
                          clear H1
                          exact absurd ((Option.some.inj H).trans hT.out) (by decide)
                      · replace c26 := Bool.eq_false_iff.mpr c26
                        subst c26
                        have H1 : (some false) = some r := by rw [if_neg (show ¬ (false = true) by decide)] at H; exact H
                        clear H
                        have H := H1
                        clear H1
                        exact absurd ((Option.some.inj H).trans hT.out) (by decide)
                    · rw [if_neg c23] at H
                      exact absurd H (by simp)
                  · rw [if_neg c21] at H
                    exact absurd H (by simp)
                · rw [if_neg c19] at H
                  exact absurd H (by simp)
  · replace c4 := Bool.eq_false_iff.mpr c4
    subst c4
    have H1 : (some false) = some r := by rw [if_neg (show ¬ (false = true) by decide)] at H; exact H
    clear H
    have H := H1
    clear H1
    exact absurd ((Option.some.inj H).trans hT.out) (by decide)

/-- THE ONE PURE STATEMENT of sprlaw14_CcSeconds: yours. -/
def sprlaw14_CcSeconds.Pure : Prop := ∀ (a0 : Int) (a1 : Int), (Lit.int .i64 a0).wf = true → (Lit.int .i64 a1).wf = true → ∃ k, sprlaw14_CcSeconds.f k a0 a1 = some true
theorem sprlaw14_CcSeconds.walk (P : sprlaw14_CcSeconds.Pure) (a0 : Int) (a1 : Int) (w : World) (w0 : (Lit.int .i64 a0).wf = true) (w1 : (Lit.int .i64 a1).wf = true) :
    Calls Tryd.prog 6 #[.int .i64 a0, .int .i64 a1] w fun e w' => e = .returned (.bool true) ∧ Below w.heap.size w w' := by
  obtain ⟨k, h⟩ := P a0 a1 w0 w1
  refine (sprlaw14_CcSeconds.calls k a0 a1 true w h (Aside0.mk rfl)).mono ?_
  rintro e w' ⟨rfl, hd⟩
  exact ⟨rfl, hd⟩

end Go.Proofs.YtifchklfomddhaaDoor.R
