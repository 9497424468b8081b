-- Written by a program of this session's (wip/xprint.py), out of the seat's translation.
import Derived.Test.YtlkbnbkabpodoaaDoorU0
import Derived.Test.YtlkbnbkabpodoaaDoorU1
namespace Go.Proofs.YtlkbnbkabpodoaaDoor.U
open Go.RowKit Go.Proofs.YtlkbnbkabpodoaaDoorW.PrintWords Go.Proofs.YtlkbnbkabpodoaaDoorW.PrintLast Go.Proofs.YtlkbnbkabpodoaaDoorW.PrintMore
attribute [local go_sem] max2_int min2_int max_two min_two max_three min_three max_four min_four   -- for this text's walks alone
set_option linter.unusedVariables false
set_option linter.unusedSimpArgs false

/-! ### cc_Seconds: function 48 -/
mutual
def cc_Seconds.j0 : Nat → ByteArray → Bool → Option (Int × Bool)
  | 0, _, _ => none
  | k + 1, x0, x12 => if x12 = true then (some (0, false)) else (cc_Seconds.l0 k x0 0 (x0.size : Int) 0)
def cc_Seconds.l0 : Nat → ByteArray → Int → Int → Int → Option (Int × Bool)
  | 0, _, _, _, _ => none
  | k + 1, x0, x4, x14, x15 => if x15 < x14 then (if 0 ≤ x15 then (if x15 < (x0.size : Int) then (if (bt x0 x15) < 48 then (some (0, false)) else (if (bt x0 x15) > 57 then (some (0, false)) else ((bits_Clip.f (wrap64 ((wrap64 (x4 * 10)) + (((bt x0 x15) - 48) % 256)))).bind fun t108 => (cc_Seconds.l0 k x0 t108 x14 (wrap64 (x15 + 1)))))) else (none)) else (none)) else (some (x4, true))
end
def cc_Seconds.f (k : Nat) (a0 : ByteArray) : Option (Int × Bool) := if a0.toList = ([] : List UInt8) then (cc_Seconds.j0 k a0 true) else (cc_Seconds.j0 k a0 (decide ((a0.size : Int) > 4000)))
theorem cc_Seconds.mono_l : ∀ k, (∀ y0 y1, LeO (cc_Seconds.j0 k y0 y1) (cc_Seconds.j0 (k + 1) y0 y1)) ∧ (∀ y0 y1 y2 y3, LeO (cc_Seconds.l0 k y0 y1 y2 y3) (cc_Seconds.l0 (k + 1) y0 y1 y2 y3))
  | 0 => ⟨fun _ _ r h => by simp [cc_Seconds.j0] at h, fun _ _ _ _ r h => by simp [cc_Seconds.l0] at h⟩
  | k + 1 => by
    obtain ⟨ih0, ih1⟩ := cc_Seconds.mono_l k
    refine ⟨?_, ?_⟩
    · intro y0 y1
      unfold cc_Seconds.j0
      repeat' first
      | (with_reducible exact ih0 _ _)
      | (with_reducible exact ih1 _ _ _ _)
      | (with_reducible exact LeO.refl _)
      | (with_reducible exact LeO.none _)
      | (with_reducible refine LeO.ite ?_ ?_)
      | (with_reducible refine LeO.bind ?_ (fun _ => ?_))
      | exact ih0 _ _
      | exact ih1 _ _ _ _
      | exact LeO.none _
      | refine LeO.ite ?_ ?_
      | refine LeO.bind ?_ (fun _ => ?_)
    · intro y0 y1 y2 y3
      unfold cc_Seconds.l0
      repeat' first
      | (with_reducible exact ih0 _ _)
      | (with_reducible exact ih1 _ _ _ _)
      | (with_reducible exact LeO.refl _)
      | (with_reducible exact LeO.none _)
      | (with_reducible refine LeO.ite ?_ ?_)
      | (with_reducible refine LeO.bind ?_ (fun _ => ?_))
      | exact ih0 _ _
      | exact ih1 _ _ _ _
      | exact LeO.none _
      | refine LeO.ite ?_ ?_
      | refine LeO.bind ?_ (fun _ => ?_)
theorem cc_Seconds.mono : ∀ a0 k, LeO (cc_Seconds.f k a0) (cc_Seconds.f (k + 1) a0) := by
  intro a0 k
  obtain ⟨ih0, ih1⟩ := cc_Seconds.mono_l k
  unfold cc_Seconds.f
  repeat' first
      | (with_reducible exact ih0 _ _)
      | (with_reducible exact ih1 _ _ _ _)
      | (with_reducible exact LeO.refl _)
      | (with_reducible exact LeO.none _)
      | (with_reducible refine LeO.ite ?_ ?_)
      | (with_reducible refine LeO.bind ?_ (fun _ => ?_))
      | exact ih0 _ _
      | exact ih1 _ _ _ _
      | exact LeO.none _
      | refine LeO.ite ?_ ?_
      | refine LeO.bind ?_ (fun _ => ?_)
set_option maxHeartbeats 2000000 in
set_option maxRecDepth 100000 in
theorem cc_Seconds.calls (k : Nat) (a0 : ByteArray) (r1 : Int) (r2 : Bool) (w : World) (h : cc_Seconds.f k a0 = some (r1, r2)) :
    Calls Tryd.prog 48 #[.string a0] w fun e w' => e = .returned (.tuple #[.int .i64 r1, .bool r2]) ∧ Below w.heap.size w w' := by
  have HB := Aside0.mk (Below.refl w.heap.size w)
  have H : (if a0.toList = ([] : List UInt8) then (cc_Seconds.j0 k a0 true) else (cc_Seconds.j0 k a0 (decide ((a0.size : Int) > 4000)))) = some (r1, r2) := h
  clear h
  have HC2 := Aside0.mk H
  clear H
  go_enter Tryd.func48, Tryd.ntmps48
  go_upto_region 1 with (fail)
  go_cut [12] (fun v12 wc => ∃ (kq : Nat) (x12_1 : Bool), v12 = .bool x12_1 ∧ Aside0 (cc_Seconds.j0 kq a0 x12_1 = some (r1, r2)) ∧ Aside0 (kq ≤ k) ∧ Aside0 (Below w.heap.size w wc))
  case first =>
    have H := HC2.out
    clear HC2
    by_cases c3 : a0.toList = ([] : List UInt8)
    · rw [if_pos c3] at H
      have c3b0 : (a0.toList == ([] : List UInt8)) = true := beq_iff_eq.mpr c3
      have c3b1 : (a0.toList != ([] : List UInt8)) = false := bne_eq_false_iff_eq.mpr c3
      clear c3
      (first | rw [c3b0] | (simp only [i64_w, i32_w]; rw [c3b0]) | skip)
      have H' := Aside0.mk H
      clear H
      go_wp2
      go_meet
      case rel => exact ⟨_, (true), (by first | rfl | (simp; done) | (simp [*]; done)), H', ⟨by first | omega | exact Nat.le_refl _⟩, ⟨by repeat (first | (with_reducible first | exact HB.out | apply below_alloc | apply pw_below_drewN | apply below_drew1) | exact HB.out)⟩⟩
    · rw [if_neg c3] at H
      have c3b0 : (a0.toList == ([] : List UInt8)) = false := beq_eq_false_iff_ne.mpr c3
      have c3b1 : (a0.toList != ([] : List UInt8)) = true := bne_iff_ne.mpr c3
      (first | rw [c3b0] | (simp only [i64_w, i32_w]; rw [c3b0]) | skip)
      have H' := Aside0.mk H
      clear H
      go_wp2
      go_meet
      case rel => exact ⟨_, (decide ((a0.size : Int) > 4000)), (by first | rfl | (simp; done) | (simp [*]; done)), H', ⟨by first | omega | exact Nat.le_refl _⟩, ⟨by repeat (first | (with_reducible first | exact HB.out | apply below_alloc | apply pw_below_drewN | apply below_drew1) | exact HB.out)⟩⟩
  case rest =>
    clear HC2
    try clear p2
    try clear c3
    try clear c3b0
    try clear c3b1
    obtain ⟨kq, x12_1, rfl, HA, HJ1, HB⟩ := hcut
    cases kq with
    | zero => exact absurd HA.out (by simp [cc_Seconds.j0])
    | succ kj1 =>
      have H := HA.out
      clear HA
      simp only [cc_Seconds.j0] at H
      by_cases c4 : x12_1 = true
      · subst c4
        have H1 : (some (0, false)) = some (r1, r2) := by rw [if_pos rfl] at H; exact H
        clear H
        have H := H1
        clear H1
        simp only [Option.some.injEq, Prod.mk.injEq] at H
        obtain ⟨rfl, rfl⟩ := H
        go_wp2
        go_ret2
        exact ⟨by first | rfl | (simp [errW_none, errW_some] <;> rfl) | (simp [*, errW_none, errW_some] <;> rfl), by repeat (first | (with_reducible first | exact HB.out | apply below_alloc | apply pw_below_drewN | apply below_drew1) | exact HB.out)⟩
      · replace c4 := Bool.eq_false_iff.mpr c4
        subst c4
        have H1 : (cc_Seconds.l0 kj1 a0 0 (a0.size : Int) 0) = some (r1, r2) := by rw [if_neg (show ¬ (false = true) by decide)] at H; exact H
        clear H
        have H := H1
        clear H1
        have H' := Aside0.mk H
        clear H
        go_wp2
        go_loopg [4, 15] kj1 (fun kq v4 v15 w' => ∃ (x4_2 : Int) (x15_2 : Int), v4 = .int .i64 x4_2 ∧ v15 = .int .i64 x15_2 ∧ Aside0 (cc_Seconds.l0 kq a0 x4_2 (a0.size : Int) x15_2 = some (r1, r2)) ∧ Aside0 (kq ≤ kj1) ∧ Aside0 (Below w.heap.size w w'))
        case atStart => exact ⟨(0), (0), (by first | rfl | (simp; done) | (simp [*]; done)), (by first | rfl | (simp; done) | (simp [*]; done)), H', ⟨Nat.le_refl _⟩, ⟨by repeat (first | (with_reducible first | exact HB.out | apply below_alloc | apply pw_below_drewN | apply below_drew1) | exact HB.out)⟩⟩
        case round =>
          clear H'
          try clear p2
          try clear c3
          try clear c3b0
          try clear c3b1
          try clear c4
          try clear p2
          obtain ⟨x4_2, x15_2, rfl, rfl, HA, HK2, HB⟩ := hrel
          cases gk with
          | zero => exact absurd HA.out (by simp [cc_Seconds.l0])
          | succ k2 =>
            have H := HA.out
            clear HA
            simp only [cc_Seconds.l0] at H
            by_cases c5 : x15_2 < (a0.size : Int)
            · rw [if_pos c5] at H
              have c5b0 : decide (x15_2 < (a0.size : Int)) = true := decide_eq_true c5
              clear c5
              by_cases c6 : 0 ≤ x15_2
              · rw [if_pos c6] at H
                have c6b0 : decide (0 ≤ x15_2) = true := decide_eq_true c6
                clear c6
                by_cases c7 : x15_2 < (a0.size : Int)
                · rw [if_pos c7] at H
                  have c7b0 : decide (x15_2 < (a0.size : Int)) = true := decide_eq_true c7
                  clear c7
                  by_cases c9 : (bt a0 x15_2) < 48
                  · rw [if_pos c9] at H
                    have c9b0 : decide ((bt a0 x15_2) < 48) = true := decide_eq_true c9
                    clear c9
                    simp only [Option.some.injEq, Prod.mk.injEq] at H
                    obtain ⟨rfl, rfl⟩ := H
                    have p8 : 0 ≤ (x15_2 : Int) := of_decide_eq_true (by first | (with_reducible assumption) | assumption)
                    have q8 : x15_2 < (a0.size : Int) := of_decide_eq_true (by first | (with_reducible assumption) | assumption)
                    have hx8 := bt_at a0 x15_2
                    replace p8 := eq_true p8
                    replace q8 := eq_true q8
                    go_wp2
                    go_ret2
                    exact ⟨by first | rfl | (simp [errW_none, errW_some] <;> rfl) | (simp [*, errW_none, errW_some] <;> rfl), by repeat (first | (with_reducible first | exact HB.out | apply below_alloc | apply pw_below_drewN | apply below_drew1) | exact HB.out)⟩
                  · rw [if_neg c9] at H
                    have c9b0 : decide ((bt a0 x15_2) < 48) = false := decide_eq_false c9
                    clear c9
                    by_cases c11 : (bt a0 x15_2) > 57
                    · rw [if_pos c11] at H
                      have c11b0 : decide (57 < (bt a0 x15_2)) = true := decide_eq_true c11
                      clear c11
                      simp only [Option.some.injEq, Prod.mk.injEq] at H
                      obtain ⟨rfl, rfl⟩ := H
                      have p8 : 0 ≤ (x15_2 : Int) := of_decide_eq_true (by first | (with_reducible assumption) | assumption)
                      have q8 : x15_2 < (a0.size : Int) := of_decide_eq_true (by first | (with_reducible assumption) | assumption)
                      have hx8 := bt_at a0 x15_2
                      replace p8 := eq_true p8
                      replace q8 := eq_true q8
                      have p10 : 0 ≤ (x15_2 : Int) := of_decide_eq_true (by first | (with_reducible assumption) | assumption)
                      have q10 : x15_2 < (a0.size : Int) := of_decide_eq_true (by first | (with_reducible assumption) | assumption)
                      have hx10 := bt_at a0 x15_2
                      replace p10 := eq_true p10
                      replace q10 := eq_true q10
                      go_wp2
                      go_ret2
                      exact ⟨by first | rfl | (simp [errW_none, errW_some] <;> rfl) | (simp [*, errW_none, errW_some] <;> rfl), by repeat (first | (with_reducible first | exact HB.out | apply below_alloc | apply pw_below_drewN | apply below_drew1) | exact HB.out)⟩
                    · rw [if_neg c11] at H
                      have c11b0 : decide (57 < (bt a0 x15_2)) = false := decide_eq_false c11
                      clear c11
                      replace H := Option.bind_eq_some_iff.mp H
                      obtain ⟨t108, A130, H⟩ := H
                      replace H : (cc_Seconds.l0 k2 a0 t108 (a0.size : Int) (wrap64 (x15_2 + 1))) = some (r1, r2) := H
                      have A13 := Aside0.mk A130
                      clear A130
                      have H' := Aside0.mk H
                      clear H
                      have p8 : 0 ≤ (x15_2 : Int) := of_decide_eq_true (by first | (with_reducible assumption) | assumption)
                      have q8 : x15_2 < (a0.size : Int) := of_decide_eq_true (by first | (with_reducible assumption) | assumption)
                      have hx8 := bt_at a0 x15_2
                      replace p8 := eq_true p8
                      replace q8 := eq_true q8
                      have p10 : 0 ≤ (x15_2 : Int) := of_decide_eq_true (by first | (with_reducible assumption) | assumption)
                      have q10 : x15_2 < (a0.size : Int) := of_decide_eq_true (by first | (with_reducible assumption) | assumption)
                      have hx10 := bt_at a0 x15_2
                      replace p10 := eq_true p10
                      replace q10 := eq_true q10
                      have p12 : 0 ≤ (x15_2 : Int) := of_decide_eq_true (by first | (with_reducible assumption) | assumption)
                      have q12 : x15_2 < (a0.size : Int) := of_decide_eq_true (by first | (with_reducible assumption) | assumption)
                      have hx12 := bt_at a0 x15_2
                      replace p12 := eq_true p12
                      replace q12 := eq_true q12
                      go_wp2_with (first | ((with_reducible refine gate_callee (f := 14) rfl ?_); refine goesL_ (some 36) rfl rfl Tryd.func14 (by kernel_rfl) rfl #[.int .i64 (wrap64 ((wrap64 (x4_2 * 10)) + (((bt a0 x15_2) - 48) % 256)))] rfl (by (try simp only [List.map_toArray, List.map_cons, List.map_nil]); first | done | rfl | (simp only [List.length_drop, List.length_take]; rfl)) ?_; (with_reducible refine (bits_Clip.calls (wrap64 ((wrap64 (x4_2 * 10)) + (((bt a0 x15_2) - 48) % 256))) t108 _ A13.out).mono ?_); rintro e w14 ⟨rfl, hb⟩; refine ⟨_, rfl, ?_⟩; have n0_ := Aside0.mk (below_step (by repeat (first | (with_reducible first | exact HB.out | apply below_alloc | apply pw_below_drewN | apply below_drew1) | exact HB.out)) hb); clear HB; have HB := n0_; clear n0_; (try clear hb); (try clear hb2); (try clear hk); (try clear hi)))
                      go_roundg k2
                      case measure => have := HJ1.out; have := HK2.out; omega
                      case rel => exact ⟨(t108), (wrap64 (x15_2 + 1)), (by first | rfl | (simp; done) | (simp [*]; done)), (by first | rfl | (simp; done) | (simp [*]; done)), H', ⟨by have := HJ1.out; have := HK2.out; omega⟩, ⟨by repeat (first | (with_reducible first | exact HB.out | apply below_alloc | apply pw_below_drewN | apply below_drew1) | exact HB.out)⟩⟩
                · rw [if_neg c7] at H
                  exact absurd H (by simp)
              · rw [if_neg c6] at H
                exact absurd H (by simp)
            · rw [if_neg c5] at H
              have c5b0 : decide (x15_2 < (a0.size : Int)) = false := decide_eq_false c5
              clear c5
              simp only [Option.some.injEq, Prod.mk.injEq] at H
              obtain ⟨rfl, rfl⟩ := H
              go_wp2
              go_ret2
              exact ⟨by first | rfl | (simp [errW_none, errW_some] <;> rfl) | (simp [*, errW_none, errW_some] <;> rfl), by repeat (first | (with_reducible first | exact HB.out | apply below_alloc | apply pw_below_drewN | apply below_drew1) | exact HB.out)⟩

/-! ### cc_Parse: function 11 -/
def cc_flagAt (B : Nat) (nm : ByteArray) : Option Addr := if Own.kindOf nm < 10 then some ⟨B, Own.kindOf nm, none⟩ else none
theorem cc_flagAt_lt (B : Nat) (nm : ByteArray) {n : Nat} (h : Own.kindOf nm = n) (hn : n < 10) : cc_flagAt B nm = some ⟨B, n, none⟩ := by subst h; unfold cc_flagAt; rw [if_pos hn]
theorem cc_flagAt_ge (B : Nat) (nm : ByteArray) (hn : ¬ Own.kindOf nm < 10) : cc_flagAt B nm = none := by unfold cc_flagAt; rw [if_neg hn]
set_option maxHeartbeats 1000000 in
set_option maxRecDepth 100000 in
theorem cc_flag.own (B : Nat) (nm : ByteArray) (w : World) :
    Calls Tryd.prog 38 #[.pointer (some ⟨B, 0, none⟩), .string nm] w fun e w' => e = .returned (.pointer (cc_flagAt B nm)) ∧ w' = w := by
  go_enter Tryd.func38, Tryd.ntmps38
  go_wp2
  all_goals (go_ret; refine ⟨?_, rfl⟩; first
    | (have q := cc_flagAt_lt B nm (n := 0) (by unfold Own.kindOf; simp only [*, if_true, if_false, Bool.false_eq_true]) (by decide); rw [q]; rfl)
    | (have q := cc_flagAt_lt B nm (n := 1) (by unfold Own.kindOf; simp only [*, if_true, if_false, Bool.false_eq_true]) (by decide); rw [q]; rfl)
    | (have q := cc_flagAt_lt B nm (n := 2) (by unfold Own.kindOf; simp only [*, if_true, if_false, Bool.false_eq_true]) (by decide); rw [q]; rfl)
    | (have q := cc_flagAt_lt B nm (n := 3) (by unfold Own.kindOf; simp only [*, if_true, if_false, Bool.false_eq_true]) (by decide); rw [q]; rfl)
    | (have q := cc_flagAt_lt B nm (n := 4) (by unfold Own.kindOf; simp only [*, if_true, if_false, Bool.false_eq_true]) (by decide); rw [q]; rfl)
    | (have q := cc_flagAt_lt B nm (n := 5) (by unfold Own.kindOf; simp only [*, if_true, if_false, Bool.false_eq_true]) (by decide); rw [q]; rfl)
    | (have q := cc_flagAt_lt B nm (n := 6) (by unfold Own.kindOf; simp only [*, if_true, if_false, Bool.false_eq_true]) (by decide); rw [q]; rfl)
    | (have q := cc_flagAt_lt B nm (n := 7) (by unfold Own.kindOf; simp only [*, if_true, if_false, Bool.false_eq_true]) (by decide); rw [q]; rfl)
    | (have q := cc_flagAt_lt B nm (n := 8) (by unfold Own.kindOf; simp only [*, if_true, if_false, Bool.false_eq_true]) (by decide); rw [q]; rfl)
    | (have q := cc_flagAt_lt B nm (n := 9) (by unfold Own.kindOf; simp only [*, if_true, if_false, Bool.false_eq_true]) (by decide); rw [q]; rfl)
    | (have q := cc_flagAt_ge B nm (by unfold Own.kindOf; simp only [*, if_true, if_false, Bool.false_eq_true]; (repeat' split) <;> omega); rw [q]; rfl))
theorem min_lt (x n : Int) : min n x = if x < n then x else n := by rw [Int.min_def]; split <;> split <;> omega
theorem max_lt (x n : Int) : max n x = if n < x then x else n := by rw [Int.max_def]; split <;> split <;> omega
set_option maxHeartbeats 1000000 in
set_option maxRecDepth 100000 in
theorem cc_least.own (B o : Nat) (h : Bool) (x : Int) (a : ByteArray) (k : Nat) (n : Int) (ok : Bool) (w0 w : World) (cs : Array Value) (hB : w.heap[B]? = some (.cells cs 34 (0, 0))) (h0 : cs[o]? = some (.bool h)) (h1 : cs[o + 1]? = some (.int .i64 x)) (hge : w0.heap.size ≤ B) (hW : Below w0.heap.size w0 w) (hs : cc_Seconds.f k a = some (n, ok)) :
    Calls Tryd.prog 39 #[.pointer (some ⟨B, o, none⟩), .string a] w fun e w' => e = .returned (.tuple #[]) ∧ w'.heap[B]? = some (.cells ((cs.setIfInBounds o (.bool true)).setIfInBounds (o + 1) (.int .i64 (Own.leastOf h x n))) 34 (0, 0)) ∧ Below w0.heap.size w0 w' ∧ KeepBut w w' B none := by
  have hu33 := Tryd.underlying32
  have hsec := fun w => cc_Seconds.calls k a n ok w hs
  have HB := Aside0.mk hB
  have HW := Aside0.mk hW
  clear hB hW
  cases h with
  | true =>
    go_enter Tryd.func39, Tryd.ntmps39
    go_wp2_with (go_at_call 48; refine (hsec _).mono ?_; rintro e w' ⟨rfl, hb⟩; have HB' := Aside0.mk (blk_below HB.out hb); have HW' := Aside0.mk (HW.out.trans (hb.mono HW.out.size)); have c0 := (blk_cell HB'.out o).trans h0; have c1 := (blk_cell HB'.out (o + 1)).trans h1; have f0 := blk_frozen HB'.out o; have f1 := blk_frozen HB'.out (o + 1))
    all_goals go_end0
    all_goals refine ⟨rfl, ?_, (HW'.out.setCell hge _).setCell hge _, ((KeepBut.of_below hb B none).set_ _ _).set_ _ _⟩
    all_goals rw [← blk_set (blk_set HB'.out o (.bool true)) (o + 1) (.int .i64 (Own.leastOf true x n))]
    all_goals first
      | (rw [show Own.leastOf true x n = min n x by unfold Own.leastOf; rw [if_pos rfl, min_lt x n]]; done)
      | (rw [show Own.leastOf true x n = x by unfold Own.leastOf; rw [if_pos rfl, if_pos (by omega)]]; done)
      | (rw [show Own.leastOf true x n = n by unfold Own.leastOf; rw [if_pos rfl, if_neg (by omega)]]; done)
  | false =>
    go_enter Tryd.func39, Tryd.ntmps39
    go_wp2_with (go_at_call 48; refine (hsec _).mono ?_; rintro e w' ⟨rfl, hb⟩; have HB' := Aside0.mk (blk_below HB.out hb); have HW' := Aside0.mk (HW.out.trans (hb.mono HW.out.size)); have c0 := (blk_cell HB'.out o).trans h0; have c1 := (blk_cell HB'.out (o + 1)).trans h1; have f0 := blk_frozen HB'.out o; have f1 := blk_frozen HB'.out (o + 1))
    go_end0
    refine ⟨rfl, ?_, (HW'.out.setCell hge _).setCell hge _, ((KeepBut.of_below hb B none).set_ _ _).set_ _ _⟩
    have := blk_set (blk_set HB'.out o (.bool true)) (o + 1) (.int .i64 (Own.leastOf false x n))
    rw [← this]
    rfl
set_option maxHeartbeats 1000000 in
set_option maxRecDepth 100000 in
theorem cc_greatest.own (B o : Nat) (h : Bool) (x : Int) (a : ByteArray) (k : Nat) (n : Int) (ok : Bool) (w0 w : World) (cs : Array Value) (hB : w.heap[B]? = some (.cells cs 34 (0, 0))) (h0 : cs[o]? = some (.bool h)) (h1 : cs[o + 1]? = some (.int .i64 x)) (hge : w0.heap.size ≤ B) (hW : Below w0.heap.size w0 w) (hs : cc_Seconds.f k a = some (n, ok)) :
    Calls Tryd.prog 40 #[.pointer (some ⟨B, o, none⟩), .string a] w fun e w' => e = .returned (.tuple #[]) ∧ w'.heap[B]? = some (.cells ((cs.setIfInBounds o (.bool true)).setIfInBounds (o + 1) (.int .i64 (Own.greatestOf x (if ok = true then n else 2147483648)))) 34 (0, 0)) ∧ Below w0.heap.size w0 w' ∧ KeepBut w w' B none := by
  have hu33 := Tryd.underlying32
  have hsec := fun w => cc_Seconds.calls k a n ok w hs
  have HB := Aside0.mk hB
  have HW := Aside0.mk hW
  clear hB hW
  cases ok with
  | true =>
    go_enter Tryd.func40, Tryd.ntmps40
    go_wp2_with (go_at_call 48; refine (hsec _).mono ?_; rintro e w' ⟨rfl, hb⟩; have HB' := Aside0.mk (blk_below HB.out hb); have HW' := Aside0.mk (HW.out.trans (hb.mono HW.out.size)); have c0 := (blk_cell HB'.out o).trans h0; have c1 := (blk_cell HB'.out (o + 1)).trans h1; have f0 := blk_frozen HB'.out o; have f1 := blk_frozen HB'.out (o + 1))
    all_goals go_end0
    all_goals refine ⟨rfl, ?_, (HW'.out.setCell hge _).setCell hge _, ((KeepBut.of_below hb B none).set_ _ _).set_ _ _⟩
    all_goals rw [← blk_set (blk_set HB'.out o (.bool true)) (o + 1) (.int .i64 (Own.greatestOf x (n)))]
    all_goals first
      | (rw [show Own.greatestOf x (n) = max (n) x by unfold Own.greatestOf; rw [max_lt]]; done)
      | (rw [show Own.greatestOf x (n) = x by unfold Own.greatestOf; rw [if_pos (by omega)]]; done)
      | (rw [show Own.greatestOf x (n) = (n) by unfold Own.greatestOf; rw [if_neg (by omega)]]; done)
  | false =>
    go_enter Tryd.func40, Tryd.ntmps40
    go_wp2_with (go_at_call 48; refine (hsec _).mono ?_; rintro e w' ⟨rfl, hb⟩; have HB' := Aside0.mk (blk_below HB.out hb); have HW' := Aside0.mk (HW.out.trans (hb.mono HW.out.size)); have c0 := (blk_cell HB'.out o).trans h0; have c1 := (blk_cell HB'.out (o + 1)).trans h1; have f0 := blk_frozen HB'.out o; have f1 := blk_frozen HB'.out (o + 1))
    all_goals go_end0
    all_goals refine ⟨rfl, ?_, (HW'.out.setCell hge _).setCell hge _, ((KeepBut.of_below hb B none).set_ _ _).set_ _ _⟩
    all_goals rw [← blk_set (blk_set HB'.out o (.bool true)) (o + 1) (.int .i64 (Own.greatestOf x (2147483648)))]
    all_goals first
      | (rw [show Own.greatestOf x (2147483648) = max (2147483648) x by unfold Own.greatestOf; rw [max_lt]]; done)
      | (rw [show Own.greatestOf x (2147483648) = x by unfold Own.greatestOf; rw [if_pos (by omega)]]; done)
      | (rw [show Own.greatestOf x (2147483648) = (2147483648) by unfold Own.greatestOf; rw [if_neg (by omega)]]; done)
theorem act_10 (c : Own.Ctl) (has : Bool) (n : Int) (ok : Bool) : (c.cells.setIfInBounds 11 (.bool true)).setIfInBounds (11 + 1) (.int .i64 (Own.leastOf c.h0 c.n0 n)) = (c.act 10 has n ok).cells := by simp [Own.Ctl.act, Own.Ctl.cells]
theorem act_11 (c : Own.Ctl) (has : Bool) (n : Int) (ok : Bool) : (c.cells.setIfInBounds 13 (.bool true)).setIfInBounds (13 + 1) (.int .i64 (Own.leastOf c.h1 c.n1 n)) = (c.act 11 has n ok).cells := by simp [Own.Ctl.act, Own.Ctl.cells]
theorem act_12 (c : Own.Ctl) (has : Bool) (n : Int) (ok : Bool) : (c.cells.setIfInBounds 19 (.bool true)).setIfInBounds (19 + 1) (.int .i64 (Own.leastOf c.h4 c.n4 n)) = (c.act 12 has n ok).cells := by simp [Own.Ctl.act, Own.Ctl.cells]
theorem act_13 (c : Own.Ctl) (has : Bool) (n : Int) (ok : Bool) : (c.cells.setIfInBounds 17 (.bool true)).setIfInBounds (17 + 1) (.int .i64 (Own.greatestOf c.n3 (if ok = true then n else 2147483648))) = (c.act 13 has n ok).cells := by simp [Own.Ctl.act, Own.Ctl.cells]
theorem act_14 (c : Own.Ctl) (n : Int) (ok : Bool) : (c.cells.setIfInBounds 15 (.bool true)).setIfInBounds (15 + 1) (.int .i64 (Own.leastOf c.h2 c.n2 n)) = (c.act 14 true n ok).cells := by simp [Own.Ctl.act, Own.Ctl.cells]
theorem act_14n (c : Own.Ctl) (n : Int) (ok : Bool) : c.cells.setIfInBounds 10 (.bool true) = (c.act 14 false n ok).cells := by simp [Own.Ctl.act, Own.Ctl.cells]
theorem act_15 (c : Own.Ctl) (has : Bool) (n : Int) (ok : Bool) : (c.act 15 has n ok).cells = c.cells := by simp [Own.Ctl.act, Own.Ctl.cells]
set_option maxHeartbeats 1000000 in
set_option maxRecDepth 100000 in
theorem cc_take.flag (B j : Nat) (nm a : ByteArray) (has : Bool) (hfl : ∀ w, Calls Tryd.prog 38 #[.pointer (some ⟨B, 0, none⟩), .string nm] w fun e w' => e = .returned (.pointer (some ⟨B, j, none⟩)) ∧ w' = w) (b : Bool) (cs cs' : Array Value) (w0 w : World) (hB : w.heap[B]? = some (.cells cs 34 (0, 0))) (hc : cs[j]? = some (.bool b)) (hset : cs.setIfInBounds j (.bool true) = cs') (hge : w0.heap.size ≤ B) (hW : Below w0.heap.size w0 w) :
    Calls Tryd.prog 25 #[.pointer (some ⟨B, 0, none⟩), .string nm, .string a, .bool has] w fun e w' => e = .returned (.tuple #[]) ∧ w'.heap[B]? = some (.cells cs' 34 (0, 0)) ∧ Below w0.heap.size w0 w' ∧ KeepBut w w' B none := by
  have c0 := (blk_cell hB j).trans hc
  have f0 := blk_frozen hB j
  have HB := Aside0.mk hB
  have HW := Aside0.mk hW
  have HS := Aside0.mk hset
  clear hB hW hset hc
  go_enter Tryd.func25, Tryd.ntmps25
  go_wp2_with (go_at_call 38; refine (hfl _).mono ?_; rintro e w' ⟨rfl, rfl⟩)
  refine bodyPost_ret (results_none rfl _ _ _) rfl ?_
  exact ⟨rfl, by rw [← HS.out]; exact blk_set HB.out j _, HW.out.setCell hge _, (KeepBut.refl _ B none).set_ _ _⟩
set_option maxHeartbeats 1000000 in
set_option maxRecDepth 100000 in
theorem cc_take.rest (B : Nat) (nm a : ByteArray) (has : Bool) (hfl : ∀ w, Calls Tryd.prog 38 #[.pointer (some ⟨B, 0, none⟩), .string nm] w fun e w' => e = .returned (.pointer none) ∧ w' = w) (k : Nat) (n : Int) (ok : Bool) (w0 w : World) (c : Own.Ctl) (kd : Nat)
    (k10 : (nm.toList == [109, 97, 120, 45, 97, 103, 101]) = true → kd = 10) (k11 : (nm.toList == [115, 45, 109, 97, 120, 97, 103, 101]) = true → kd = 11) (k12 : (nm.toList == [115, 116, 97, 108, 101, 45, 105, 102, 45, 101, 114, 114, 111, 114]) = true → kd = 12) (k13 : (nm.toList == [109, 105, 110, 45, 102, 114, 101, 115, 104]) = true → kd = 13) (k14 : (nm.toList == [109, 97, 120, 45, 115, 116, 97, 108, 101]) = true → kd = 14)
    (k15 : (nm.toList == [109, 97, 120, 45, 97, 103, 101]) = false → (nm.toList == [115, 45, 109, 97, 120, 97, 103, 101]) = false → (nm.toList == [115, 116, 97, 108, 101, 45, 105, 102, 45, 101, 114, 114, 111, 114]) = false → (nm.toList == [109, 105, 110, 45, 102, 114, 101, 115, 104]) = false → (nm.toList == [109, 97, 120, 45, 115, 116, 97, 108, 101]) = false → kd = 15)
    (hB : w.heap[B]? = some (.cells c.cells 34 (0, 0))) (hge : w0.heap.size ≤ B) (hW : Below w0.heap.size w0 w) (hs : cc_Seconds.f k a = some (n, ok)) :
    Calls Tryd.prog 25 #[.pointer (some ⟨B, 0, none⟩), .string nm, .string a, .bool has] w fun e w' => e = .returned (.tuple #[]) ∧ w'.heap[B]? = some (.cells (c.act kd has n ok).cells 34 (0, 0)) ∧ Below w0.heap.size w0 w' ∧ KeepBut w w' B none := by
  have K10 := Aside0.mk k10
  have K11 := Aside0.mk k11
  have K12 := Aside0.mk k12
  have K13 := Aside0.mk k13
  have K14 := Aside0.mk k14
  have K15 := Aside0.mk k15
  have HB := Aside0.mk hB
  have HW := Aside0.mk hW
  have c10 := (blk_cell hB 10).trans (show c.cells[10]? = some (.bool c.b10) from rfl)
  have f10 := blk_frozen hB 10
  have hu35 := Tryd.underlying34
  have L11 := cc_least.own B 11 c.h0 c.n0 a k n ok w0 _ c.cells hB rfl rfl hge hW hs
  have L13 := cc_least.own B 13 c.h1 c.n1 a k n ok w0 _ c.cells hB rfl rfl hge hW hs
  have L15 := cc_least.own B 15 c.h2 c.n2 a k n ok w0 _ c.cells hB rfl rfl hge hW hs
  have L19 := cc_least.own B 19 c.h4 c.n4 a k n ok w0 _ c.cells hB rfl rfl hge hW hs
  have G17 := cc_greatest.own B 17 c.h3 c.n3 a k n ok w0 _ c.cells hB rfl rfl hge hW hs
  clear k10 k11 k12 k13 k14 k15 hB hW
  go_enter Tryd.func25, Tryd.ntmps25
  go_wp2_with (first | (go_at_call 38; (with_reducible refine (hfl _).mono ?_); rintro e w' ⟨rfl, rfl⟩) | (go_at_call 39; (with_reducible refine L11.mono ?_); rintro e w' ⟨rfl, hq, hw, hk⟩) | (go_at_call 39; (with_reducible refine L13.mono ?_); rintro e w' ⟨rfl, hq, hw, hk⟩) | (go_at_call 39; (with_reducible refine L15.mono ?_); rintro e w' ⟨rfl, hq, hw, hk⟩) | (go_at_call 39; (with_reducible refine L19.mono ?_); rintro e w' ⟨rfl, hq, hw, hk⟩) | (go_at_call 40; (with_reducible refine G17.mono ?_); rintro e w' ⟨rfl, hq, hw, hk⟩))
  all_goals first | go_end0 | (refine bodyPost_ret (results_none rfl _ _ _) rfl ?_)
  all_goals (first
    | (obtain rfl := K10.out (by assumption); exact ⟨rfl, by rw [hq]; exact congrArg (fun z => some (Obj.cells z 34 (0, 0))) (act_10 c has n ok), hw, hk⟩)
    | (obtain rfl := K11.out (by assumption); exact ⟨rfl, by rw [hq]; exact congrArg (fun z => some (Obj.cells z 34 (0, 0))) (act_11 c has n ok), hw, hk⟩)
    | (obtain rfl := K12.out (by assumption); exact ⟨rfl, by rw [hq]; exact congrArg (fun z => some (Obj.cells z 34 (0, 0))) (act_12 c has n ok), hw, hk⟩)
    | (obtain rfl := K13.out (by assumption); exact ⟨rfl, by rw [hq]; exact congrArg (fun z => some (Obj.cells z 34 (0, 0))) (act_13 c has n ok), hw, hk⟩)
    | (obtain rfl := K14.out (by assumption); obtain rfl : has = true := (by assumption); exact ⟨rfl, by rw [hq]; exact congrArg (fun z => some (Obj.cells z 34 (0, 0))) (act_14 c n ok), hw, hk⟩)
    | (obtain rfl := K14.out (by assumption); obtain rfl : has = false := (by assumption); exact ⟨rfl, by rw [← act_14n c n ok]; exact blk_set HB.out 10 _, HW.out.setCell hge _, (KeepBut.refl _ B none).set_ _ _⟩)
    | (obtain rfl := K15.out (by assumption) (by assumption) (by assumption) (by assumption) (by assumption); exact ⟨rfl, by rw [act_15 c has n ok]; exact HB.out, HW.out, KeepBut.refl _ B none⟩))
theorem cc_take.own (B : Nat) (nm a : ByteArray) (has : Bool) (k : Nat) (n : Int) (ok : Bool) (w0 w : World) (c : Own.Ctl) (hB : w.heap[B]? = some (.cells c.cells 34 (0, 0))) (hge : w0.heap.size ≤ B) (hW : Below w0.heap.size w0 w) (hs : cc_Seconds.f k a = some (n, ok)) :
    Calls Tryd.prog 25 #[.pointer (some ⟨B, 0, none⟩), .string nm, .string a, .bool has] w fun e w' => e = .returned (.tuple #[]) ∧ w'.heap[B]? = some (.cells (c.act (Own.kindOf nm) has n ok).cells 34 (0, 0)) ∧ Below w0.heap.size w0 w' ∧ KeepBut w w' B none := by
  have hfl := fun w => cc_flag.own B nm w
  by_cases hk : Own.kindOf nm < 10
  · rw [cc_flagAt_lt B nm rfl hk] at hfl
    have hc : ∃ b, c.cells[Own.kindOf nm]? = some (.bool b) := by
      generalize Own.kindOf nm = j at hk
      have : j = 0 ∨ j = 1 ∨ j = 2 ∨ j = 3 ∨ j = 4 ∨ j = 5 ∨ j = 6 ∨ j = 7 ∨ j = 8 ∨ j = 9 := by omega
      rcases this with rfl | rfl | rfl | rfl | rfl | rfl | rfl | rfl | rfl | rfl <;> exact ⟨_, rfl⟩
    have hset : c.cells.setIfInBounds (Own.kindOf nm) (.bool true) = (c.act (Own.kindOf nm) has n ok).cells := by
      generalize Own.kindOf nm = j at hk
      have : j = 0 ∨ j = 1 ∨ j = 2 ∨ j = 3 ∨ j = 4 ∨ j = 5 ∨ j = 6 ∨ j = 7 ∨ j = 8 ∨ j = 9 := by omega
      rcases this with rfl | rfl | rfl | rfl | rfl | rfl | rfl | rfl | rfl | rfl <;> simp [Own.Ctl.act, Own.Ctl.cells]
    obtain ⟨b, hc⟩ := hc
    exact cc_take.flag B _ nm a has hfl b _ _ w0 w hB hc hset hge hW
  · rw [cc_flagAt_ge B nm hk] at hfl
    refine cc_take.rest B nm a has hfl k n ok w0 w c (Own.kindOf nm) (fun h => ?_) (fun h => ?_) (fun h => ?_) (fun h => ?_) (fun h => ?_) (fun h1 h2 h3 h4 h5 => ?_) hB hge hW hs
    · unfold Own.kindOf; rw [beq_iff_eq.1 h]; rfl
    · unfold Own.kindOf; rw [beq_iff_eq.1 h]; rfl
    · unfold Own.kindOf; rw [beq_iff_eq.1 h]; rfl
    · unfold Own.kindOf; rw [beq_iff_eq.1 h]; rfl
    · unfold Own.kindOf; rw [beq_iff_eq.1 h]; rfl
    · unfold Own.kindOf at hk ⊢
      simp only [h1, h2, h3, h4, h5, Bool.false_eq_true, if_false] at hk ⊢
      (repeat' split) <;> first | rfl | (exfalso; revert hk; simp [*])
def cc_Parse.step (k : Nat) (c : Own.Ctl) (p : ByteArray) : Option Own.Ctl :=
  (strings_Cut.f p (⟨#[61]⟩ : ByteArray)).bind fun t => (head_Trim.f t.1).bind fun u => (head_Lower.f u).bind fun nm => (head_Trim.f t.2.1).bind fun b => (cc_unquoted.f b).bind fun a => (cc_Seconds.f k a).bind fun s => some (c.act (Own.kindOf nm) t.2.2 s.1 s.2)
def cc_Parse.steps (k : Nat) : List ByteArray → Own.Ctl → Option Own.Ctl
  | [], c => some c
  | p :: t, c => (cc_Parse.step k c p).bind fun c' => cc_Parse.steps k t c'
theorem cc_at_str {w : World} {A : Option Addr} {n : Nat} {xs : List ByteArray} (h : Kd.C Kd.string w A n xs) (i : Nat) (x : ByteArray) (hx : xs[i]? = some x) : ∃ ad, A = some ad ∧ w.cell? (ad.add i) = some (.string x) := by
  have hn := h.1
  have hi := (List.getElem?_eq_some_iff.1 hx).1
  obtain ⟨ad, e, hc⟩ := h.2.2 (by omega)
  obtain ⟨c, hl, hr, hcell⟩ := hc i x hx
  refine ⟨ad, e, ?_⟩
  have := hcell 0 (.string x) (by
    have e : c = [.string x] := hr
    rw [e]; rfl)
  simpa [Kd.string, Kd.scalar] using this
/-- The world in a round: what was made before stands, the block of the answer holds c. -/
structure CcSt (w w2 : World) (B : Nat) (c : Own.Ctl) (W : World) : Prop where
  at_ : W.heap[B]? = some (.cells c.cells 34 (0, 0))
  below : Below w.heap.size w W
  keep : KeepBut w2 W B none
theorem CcSt.next {w w2 : World} {B : Nat} {c : Own.Ctl} {W W' : World} (h : CcSt w w2 B c W) (hb : Below W.heap.size W W') : CcSt w w2 B c W' :=
  ⟨blk_below h.at_ hb, h.below.trans (hb.mono h.below.size), h.keep.trans (KeepBut.of_below hb B none) (.inl rfl)⟩
theorem cc_below_setRow {B g : Nat} {w0 w : World} (hb : Below B w0 w) (hg : B ≤ g) (cs : Array Value) : Below B w0 (w.setRow g cs) :=
  ⟨hb.os, hb.tape, hb.output, by rw [setRow_size]; exact hb.size, fun k hk => (setRow_other w g k cs (by omega)).trans (hb.block k hk)⟩
theorem cc_info : (Tryd.prog.info? 34).map (·.size) = some 21 := by kernel_rfl
theorem cc_zero (w : World) : (w.alloc (.cells Own.Ctl.zero.cells 34)).heap[w.heap.size]? = some (.cells Own.Ctl.zero.cells 34 (0, 0)) := blk_new w _
set_option maxHeartbeats 1000000 in
set_option maxRecDepth 100000 in
theorem cc_Parse.own (k : Nat) (A : Option Addr) (c0 : Nat) (l ps : List ByteArray) (r : Own.Ctl) (w : World) (hr0 : Kd.C Kd.string w A l.length l) (hc0 : l.length ≤ c0) (hS : head_Split.f k l = some ps) (hF : cc_Parse.steps k ps Own.Ctl.zero = some r) :
    Calls Tryd.prog 11 #[.slice A l.length c0] w fun e w' => e = .returned (.agg r.fin.cells) ∧ Below w.heap.size w w' := by
  have hu35 := Tryd.underlying34
  obtain ⟨wa, hwa⟩ : ∃ wa, wa = w.alloc (.cells #[.bool false, .bool false, .bool false, .bool false, .bool false, .bool false, .bool false, .bool false, .bool false, .bool false, .bool false, .bool false, .int .i64 0, .bool false, .int .i64 0, .bool false, .int .i64 0, .bool false, .int .i64 0, .bool false, .int .i64 0] 34) := ⟨_, rfl⟩
  obtain ⟨w1, hw1⟩ : ∃ w1, w1 = wa.alloc (.cells #[.bool false, .bool false, .bool false, .bool false, .bool false, .bool false, .bool false, .bool false, .bool false, .bool false, .bool false, .bool false, .int .i64 0, .bool false, .int .i64 0, .bool false, .int .i64 0, .bool false, .int .i64 0, .bool false, .int .i64 0] 34) := ⟨_, rfl⟩
  have hba : Below w.heap.size w wa := by rw [hwa]; exact (Below.refl _ w).alloc (Nat.le_refl _) _
  have hsa : wa.heap.size = w.heap.size + 1 := by rw [hwa, World.size_alloc]
  have hza : wa.heap[w.heap.size]? = some (.cells Own.Ctl.zero.cells 34 (0, 0)) := by rw [hwa]; exact blk_new w _
  have hb1 : Below w.heap.size w w1 := by rw [hw1]; exact hba.alloc (by omega) _
  have hs1 : w1.heap.size = w.heap.size + 2 := by rw [hw1, World.size_alloc, hsa]
  have hz0 : w1.heap[w.heap.size]? = some (.cells Own.Ctl.zero.cells 34 (0, 0)) := by rw [hw1]; exact blk_alloc hza _
  have hz1 : w1.heap[w.heap.size + 1]? = some (.cells Own.Ctl.zero.cells 34 (0, 0)) := by rw [hw1, ← hsa]; exact blk_new wa _
  have hsp := head_Split.calls k A c0 l ps w1 (Kd.C_below hr0 hb1) hc0 hS
  have HB1 := Aside0.mk hb1
  have HS1 := Aside0.mk hs1
  have HZ1 := Aside0.mk hz1
  have HZ0 := Aside0.mk hz0
  clear hb1 hs1 hz1 hz0 hr0 hS hza hba
  go_enter Tryd.func11, Tryd.ntmps11
  go_wp2_with (first | (go_at_call 23; rw [← hwa, ← hw1]; (with_reducible refine hsp.mono ?_); rintro e w2 ⟨v, rfl, hR, hB2⟩; obtain ⟨A2, c2, rfl, hc2, hC2⟩ := Kd.R_reads hR))
  have HB2 := Aside0.mk (HB1.out.trans (hB2.mono (by have := HS1.out; omega)))
  have HZ2 := Aside0.mk (blk_below HZ1.out hB2)
  have HZ20 := Aside0.mk (blk_below HZ0.out hB2)
  have HC2 := Aside0.mk hC2
  have HF := Aside0.mk hF
  have hlen : ps.length ≤ 9223372036854775807 := hC2.2.1
  have HA2 : Aside0 (some (w.heap.size + 1) ≠ (Value.slice A2 ps.length c2).ownBlock) := ⟨Kd.R_ne hR HZ2.out (by decide)⟩
  clear hB2 hC2 hF hR hsp hwa hw1 hsa
  go_loopg [12] ps.length (fun gg i wr => ∃ n : Nat, i = .int .i64 n ∧ n ≤ ps.length ∧ ps.length - n ≤ gg ∧ ∃ c : Own.Ctl, Aside0 (cc_Parse.steps k (ps.drop n) c = some r) ∧ Aside0 (CcSt w w2 (w.heap.size + 1) c wr))
  case atStart => exact ⟨0, rfl, by omega, by omega, _, ⟨HF.out⟩, ⟨⟨HZ2.out, HB2.out, KeepBut.refl _ _ _⟩⟩⟩
  case round =>
    obtain ⟨n, rfl, hn, hgg, c, hst, hS0⟩ := hrel
    by_cases hlt : n < ps.length
    · have hx : ps[n]? = some ps[n] := List.getElem?_eq_getElem hlt
      have q1 : decide ((n : Int) < (ps.length : Int)) = true := decide_eq_true (by omega)
      obtain ⟨ad, rfl, hx0⟩ := cc_at_str HC2.out n _ hx
      replace hx0 : wr.cell? (ad.add n) = some (.string ps[n]) := by
        have hl := World.block_lt_of_cell? w2 _ hx0
        have hne : (ad.add n).block ≠ w.heap.size + 1 := fun e => HA2.out (by rw [← e]; simp [Value.ownBlock, Addr.add]; split <;> rfl)
        have := hS0.out.keep.2 (ad.add n).block hl hne (by simp)
        rw [← hx0]; unfold World.cell?; rw [this]
      have p5 := eq_true (show (0 : Int) ≤ (n : Int) by omega)
      have q5 := eq_true (show (n : Int) < (ps.length : Int) by omega)
      have hd : ps.drop n = ps[n] :: ps.drop (n + 1) := List.drop_eq_getElem_cons hlt
      have hst' := hst.out
      rw [hd] at hst'
      clear hd hx hst
      generalize ps[n] = x at *
      obtain ⟨c', hc1, hc2⟩ := Option.bind_eq_some_iff.1 (show (cc_Parse.step k c x).bind (fun c' => cc_Parse.steps k (ps.drop (n + 1)) c') = some r from hst')
      clear hst'
      unfold cc_Parse.step at hc1
      obtain ⟨⟨t1, t2, t3⟩, e1, hc1⟩ := Option.bind_eq_some_iff.1 hc1
      obtain ⟨u, e2, hc1⟩ := Option.bind_eq_some_iff.1 hc1
      obtain ⟨nm, e3, hc1⟩ := Option.bind_eq_some_iff.1 hc1
      obtain ⟨b, e4, hc1⟩ := Option.bind_eq_some_iff.1 hc1
      obtain ⟨a, e5, hc1⟩ := Option.bind_eq_some_iff.1 hc1
      obtain ⟨⟨s1, s2⟩, e6, hc1⟩ := Option.bind_eq_some_iff.1 hc1
      have k1 := fun w => strings_Cut.calls x _ t1 t2 t3 w e1
      have k2 := fun w => head_Trim.calls t1 u w e2
      have k3 := fun w => head_Lower.calls u nm w e3
      have k4 := fun w => head_Trim.calls t2 b w e4
      have k5 := fun w => cc_unquoted.calls b a w e5
      have E6 := Aside0.mk e6
      have HC1 := Aside0.mk (Option.some.inj hc1)
      have HC2' := Aside0.mk hc2
      clear hc1 hc2 e1 e2 e3 e4 e5 e6
      go_wp2_with (first | (go_at_call 24; (with_reducible refine (k1 _).mono ?_); rintro e w3 ⟨rfl, hb⟩; have S1 := Aside0.mk (hS0.out.next hb); clear hb) | (go_at_call 27; (with_reducible refine (k2 _).mono ?_); rintro e w4 ⟨rfl, hb⟩; have S2 := Aside0.mk (S1.out.next hb); clear hb k2) | (go_at_call 26; (with_reducible refine (k3 _).mono ?_); rintro e w5 ⟨rfl, hb⟩; have S3 := Aside0.mk (S2.out.next hb); clear hb) | (go_at_call 27; (with_reducible refine (k4 _).mono ?_); rintro e w6 ⟨rfl, hb⟩; have S4 := Aside0.mk (S3.out.next hb); clear hb) | (go_at_call 28; (with_reducible refine (k5 _).mono ?_); rintro e w7 ⟨rfl, hb⟩; have S5 := Aside0.mk (S4.out.next hb.below); clear hb; have k6 := cc_take.own (w.heap.size + 1) nm a t3 k s1 s2 w w7 c S5.out.at_ (by omega) S5.out.below E6.out) | (go_at_call 25; (with_reducible refine k6.mono ?_); rintro e w8 ⟨rfl, hq, hw, hk⟩; have S6 : Aside0 (CcSt w w2 (w.heap.size + 1) c' w8) := ⟨⟨by rw [hq, HC1.out], hw, S5.out.keep.trans hk (.inl rfl)⟩⟩; clear hq hw hk k6))
      go_roundg (ps.length - (n + 1))
      case measure => omega
      case rel => exact ⟨n + 1, rfl, by omega, by omega, c', HC2', S6⟩
    · have q1 : decide ((n : Int) < (ps.length : Int)) = false := decide_eq_false (by omega)
      have hd : ps.drop n = [] := List.drop_eq_nil_of_le (by omega)
      have hst' := hst.out
      rw [hd] at hst'
      obtain rfl : c = r := Option.some.inj hst'
      have hc10 := (blk_cell hS0.out.at_ 10).trans (show c.cells[10]? = some (.bool c.b10) from rfl)
      have hc15 := (blk_cell hS0.out.at_ 15).trans (show c.cells[15]? = some (.bool c.h2) from rfl)
      have hf10 := blk_frozen hS0.out.at_ 10
      have hu33 := Tryd.underlying32
      clear hd hst'
      have hres : wr.heap[w.heap.size]? = some (.cells Own.Ctl.zero.cells 34 (0, 0)) := (hS0.out.keep.2 w.heap.size (blk_lt HZ20.out) (by omega) (by simp)).trans HZ20.out
      have hfin : ∀ v : Bool, (c.b10 && !c.h2) = v → (wr.setCell ⟨w.heap.size + 1, 10, none⟩ (.bool v)).heap[w.heap.size + 1]? = some (.cells c.fin.cells 34 (0, 0)) := fun v hv => by
        rw [blk_set hS0.out.at_ 10]
        subst hv
        rfl
      have hres2 : ∀ v : Bool, (wr.setCell ⟨w.heap.size + 1, 10, none⟩ (.bool v)).heap[w.heap.size]? = some (.cells Own.Ctl.zero.cells 34 (0, 0)) := fun v => blk_far hres (by show w.heap.size ≠ w.heap.size + 1; omega) _
      have hbel : ∀ v : Bool, Below w.heap.size w ((wr.setCell ⟨w.heap.size + 1, 10, none⟩ (.bool v)).setRow w.heap.size c.fin.cells) := fun v => cc_below_setRow (hS0.out.below.setCell (Nat.le_succ _) _) (Nat.le_refl _) _
      have hback : ∀ v : Bool, ((wr.setCell ⟨w.heap.size + 1, 10, none⟩ (.bool v)).setRow w.heap.size c.fin.cells).heap[w.heap.size]? = some (.cells c.fin.cells 34 (0, 0)) := fun v => setRow_heap _ _ _ _ _ _ (hres2 v)
      obtain ⟨fc, hfc⟩ : ∃ fc, fc = c.fin.cells := ⟨_, rfl⟩
      have hsz : some 21 = some fc.size := by rw [hfc]; rfl
      have hone : fc.all (·.oneCell') = true := by rw [hfc]; simp [Own.Ctl.cells, Value.oneCell']
      rw [← hfc] at hfin hbel hback
      have HFC := Aside0.mk hfc
      have HFIN := Aside0.mk hfin
      have HRES := Aside0.mk hres2
      have HBEL := Aside0.mk hbel
      have HBK := Aside0.mk hback
      clear hfc hfin hres2 hbel hback hres
      cases hb : c.b10 with
      | true =>
        cases hh : c.h2 with
        | true =>
          have HV := HFIN.out false (by rw [hb, hh]; rfl)
          rw [hb] at hc10
          rw [hh] at hc15
          clear hb hh
          go_wp2_with (first | ((with_reducible refine gate_dst (N := 40) rfl ?_); refine wpList_load_row rfl 34 (.tmp 3) rfl (w.heap.size + 1) rfl 34 fc (0, 0) _ HV hu35 rfl (cc_info.trans hsz) ?_) | ((with_reducible refine gate_store (t := 34) rfl ?_); refine wpList_store_row rfl 34 (.tmp 2) (.tmp 40) rfl w.heap.size fc rfl rfl 34 Own.Ctl.zero.cells (HRES.out false) (cc_info.trans hsz) (by rw [← Option.some.inj hsz]; rfl) hone ?_))
          refine bodyPost_ret (results_cell_row rfl _ _ w.heap.size 34 fc (0, 0) _ rfl (HBK.out false) hu35 rfl (cc_info.trans hsz)) rfl ?_
          exact ⟨by rw [HFC.out], HBEL.out false⟩
        | false =>
          have HV := HFIN.out true (by rw [hb, hh]; rfl)
          rw [hb] at hc10
          rw [hh] at hc15
          clear hb hh
          go_wp2_with (first | ((with_reducible refine gate_dst (N := 40) rfl ?_); refine wpList_load_row rfl 34 (.tmp 3) rfl (w.heap.size + 1) rfl 34 fc (0, 0) _ HV hu35 rfl (cc_info.trans hsz) ?_) | ((with_reducible refine gate_store (t := 34) rfl ?_); refine wpList_store_row rfl 34 (.tmp 2) (.tmp 40) rfl w.heap.size fc rfl rfl 34 Own.Ctl.zero.cells (HRES.out true) (cc_info.trans hsz) (by rw [← Option.some.inj hsz]; rfl) hone ?_))
          refine bodyPost_ret (results_cell_row rfl _ _ w.heap.size 34 fc (0, 0) _ rfl (HBK.out true) hu35 rfl (cc_info.trans hsz)) rfl ?_
          exact ⟨by rw [HFC.out], HBEL.out true⟩
      | false =>
        have HV := HFIN.out false (by rw [hb]; rfl)
        rw [hb] at hc10
        clear hb
        go_wp2_with (first | ((with_reducible refine gate_dst (N := 40) rfl ?_); refine wpList_load_row rfl 34 (.tmp 3) rfl (w.heap.size + 1) rfl 34 fc (0, 0) _ HV hu35 rfl (cc_info.trans hsz) ?_) | ((with_reducible refine gate_store (t := 34) rfl ?_); refine wpList_store_row rfl 34 (.tmp 2) (.tmp 40) rfl w.heap.size fc rfl rfl 34 Own.Ctl.zero.cells (HRES.out false) (cc_info.trans hsz) (by rw [← Option.some.inj hsz]; rfl) hone ?_))
        refine bodyPost_ret (results_cell_row rfl _ _ w.heap.size 34 fc (0, 0) _ rfl (HBK.out false) hu35 rfl (cc_info.trans hsz)) rfl ?_
        exact ⟨by rw [HFC.out], HBEL.out false⟩
def cc_Parse.f (k : Nat) (l0 : List ByteArray) : Option (Bool × Bool × Bool × Bool × Bool × Bool × Bool × Bool × Bool × Bool × Bool × Bool × Int × Bool × Int × Bool × Int × Bool × Int × Bool × Int) :=
  (head_Split.f k l0).bind fun ps => (cc_Parse.steps k ps Own.Ctl.zero).bind fun c => some c.fin.tup
theorem cc_Parse.mono_steps (k : Nat) : ∀ (ps : List ByteArray) (c : Own.Ctl), LeO (cc_Parse.steps k ps c) (cc_Parse.steps (k + 1) ps c)
  | [], c => LeO.refl _
  | p :: t, c => by
    unfold cc_Parse.steps cc_Parse.step
    refine LeO.bind ?_ (fun _ => cc_Parse.mono_steps k t _)
    exact LeO.bind (LeO.refl _) fun _ => LeO.bind (LeO.refl _) fun _ => LeO.bind (LeO.refl _) fun _ => LeO.bind (LeO.refl _) fun _ => LeO.bind (LeO.refl _) fun _ => LeO.bind (cc_Seconds.mono _ k) fun _ => LeO.refl _
theorem cc_Parse.mono : ∀ a0 k, LeO (cc_Parse.f k a0) (cc_Parse.f (k + 1) a0) := by
  intro a0 k
  unfold cc_Parse.f
  exact LeO.bind (head_Split.mono _ k) fun _ => LeO.bind (cc_Parse.mono_steps k _ _) fun _ => LeO.refl _
theorem cc_Parse.calls (k : Nat) (A0 : Option Addr) (c0 : Nat) (l0 : List ByteArray) (r1 : Bool) (r2 : Bool) (r3 : Bool) (r4 : Bool) (r5 : Bool) (r6 : Bool) (r7 : Bool) (r8 : Bool) (r9 : Bool) (r10 : Bool) (r11 : Bool) (r12 : Bool) (r13 : Int) (r14 : Bool) (r15 : Int) (r16 : Bool) (r17 : Int) (r18 : Bool) (r19 : Int) (r20 : Bool) (r21 : Int) (w : World) (hr0 : Kd.C Kd.string w A0 l0.length l0) (hc0 : l0.length ≤ c0) (h : cc_Parse.f k l0 = some (r1, r2, r3, r4, r5, r6, r7, r8, r9, r10, r11, r12, r13, r14, r15, r16, r17, r18, r19, r20, r21)) :
    Calls Tryd.prog 11 #[.slice A0 l0.length c0] w fun e w' => e = .returned (.agg #[.bool r1, .bool r2, .bool r3, .bool r4, .bool r5, .bool r6, .bool r7, .bool r8, .bool r9, .bool r10, .bool r11, .bool r12, .int .i64 r13, .bool r14, .int .i64 r15, .bool r16, .int .i64 r17, .bool r18, .int .i64 r19, .bool r20, .int .i64 r21]) ∧ Below w.heap.size w w' := by
  unfold cc_Parse.f at h
  obtain ⟨ps, h1, h⟩ := Option.bind_eq_some_iff.1 h
  obtain ⟨c, h2, h⟩ := Option.bind_eq_some_iff.1 h
  have h := Option.some.inj h
  unfold Own.Ctl.tup at h
  simp only [Prod.mk.injEq] at h
  obtain ⟨rfl, rfl, rfl, rfl, rfl, rfl, rfl, rfl, rfl, rfl, rfl, rfl, rfl, rfl, rfl, rfl, rfl, rfl, rfl, rfl, rfl⟩ := h
  exact cc_Parse.own k A0 c0 l0 ps c w hr0 hc0 h1 h2
def ccR (k : Nat) (v : List ByteArray) : Option Own.Ctl := (head_Split.f k v).bind fun ps => (cc_Parse.steps k ps Own.Ctl.zero).bind fun c => some c.fin
theorem ccR_mono (k : Nat) (v : List ByteArray) : LeO (ccR k v) (ccR (k + 1) v) := LeO.bind (head_Split.mono _ k) fun _ => LeO.bind (cc_Parse.mono_steps k _ _) fun _ => LeO.refl _
theorem ccR_calls (k : Nat) (A : Option Addr) (c0 : Nat) (l : List ByteArray) (c : Own.Ctl) (w : World) (hr0 : Kd.C Kd.string w A l.length l) (hc0 : l.length ≤ c0) (h : ccR k l = some c) :
    Calls Tryd.prog 11 #[.slice A l.length c0] w fun e w' => e = .returned (.agg c.cells) ∧ Below w.heap.size w w' := by
  unfold ccR at h
  obtain ⟨ps, h1, h⟩ := Option.bind_eq_some_iff.1 h
  obtain ⟨c1, h2, h⟩ := Option.bind_eq_some_iff.1 h
  obtain rfl := Option.some.inj h
  exact cc_Parse.own k A c0 l ps c1 w hr0 hc0 h1 h2


/-! ### head_is: function 29 -/
def head_is.f (a0 : ByteArray) (a1 : ByteArray) : Option (Bool) := (head_Lower.f a0).bind fun t109 => ((head_Lower.f a1).bind fun t110 => (some (t109.toList == t110.toList)))
set_option maxHeartbeats 2000000 in
set_option maxRecDepth 100000 in
theorem head_is.calls (a0 : ByteArray) (a1 : ByteArray) (r : Bool) (w : World) (h : head_is.f a0 a1 = some r) :
    Calls Tryd.prog 29 #[.string a0, .string a1] w fun e w' => e = .returned (.bool r) ∧ Below w.heap.size w w' := by
  have HB := Aside0.mk (Below.refl w.heap.size w)
  have H : ((head_Lower.f a0).bind fun t109 => ((head_Lower.f a1).bind fun t110 => (some (t109.toList == t110.toList)))) = some r := h
  clear h
  replace H := Option.bind_eq_some_iff.mp H
  obtain ⟨t109, A30, H⟩ := H
  replace H : ((head_Lower.f a1).bind fun t110 => (some (t109.toList == t110.toList))) = some r := H
  have A3 := Aside0.mk A30
  clear A30
  replace H := Option.bind_eq_some_iff.mp H
  obtain ⟨t110, A40, H⟩ := H
  replace H : (some (t109.toList == t110.toList)) = some r := H
  have A4 := Aside0.mk A40
  clear A40
  obtain rfl := Option.some.inj H
  go_enter Tryd.func29, Tryd.ntmps29
  go_wp2_with (first | ((with_reducible refine gate_callee (f := 26) rfl ?_); refine goesL_ (some 6) rfl rfl Tryd.func26 (by kernel_rfl) rfl #[.string a0] rfl (by (try simp only [List.map_toArray, List.map_cons, List.map_nil]); first | done | rfl | (simp only [List.length_drop, List.length_take]; rfl)) ?_; (with_reducible refine (head_Lower.calls a0 t109 _ A3.out).mono ?_); rintro e w5 ⟨rfl, hb⟩; refine ⟨_, rfl, ?_⟩; have n0_ := Aside0.mk (below_step (by repeat (first | (with_reducible first | exact HB.out | apply below_alloc | apply pw_below_drewN | apply below_drew1) | exact HB.out)) hb); clear HB; have HB := n0_; clear n0_; (try clear hb); (try clear hb2); (try clear hk); (try clear hi)) | ((with_reducible refine gate_callee (f := 26) rfl ?_); refine goesL_ (some 8) rfl rfl Tryd.func26 (by kernel_rfl) rfl #[.string a1] rfl (by (try simp only [List.map_toArray, List.map_cons, List.map_nil]); first | done | rfl | (simp only [List.length_drop, List.length_take]; rfl)) ?_; (with_reducible refine (head_Lower.calls a1 t110 _ A4.out).mono ?_); rintro e w6 ⟨rfl, hb⟩; refine ⟨_, rfl, ?_⟩; have n0_ := Aside0.mk (below_step (by repeat (first | (with_reducible first | exact HB.out | apply below_alloc | apply pw_below_drewN | apply below_drew1) | exact HB.out)) hb); clear HB; have HB := n0_; clear n0_; (try clear hb); (try clear hb2); (try clear hk); (try clear hi)))
  go_ret
  exact ⟨by first | rfl | (simp [errW_none, errW_some] <;> rfl) | (simp [*, errW_none, errW_some] <;> rfl), by repeat (first | (with_reducible first | exact HB.out | apply below_alloc | apply pw_below_drewN | apply below_drew1) | exact HB.out)⟩

/-! ### head_All: function 12 -/
def head_All.l0 : Nat → ByteArray → List ByteArray → List (S29) → Int → Int → Option (List ByteArray)
  | 0, _, _, _, _, _ => none
  | k + 1, x1, x5, x8, x9, x10 => if x10 < x9 then (if 0 ≤ x10 then (if x10 < (x8.length : Int) then ((head_is.f ((rd_T29 x8 x10).f0) x1).bind fun t113 => (if t113 = true then (if x5.length < 8796093022208 then (head_All.l0 k x1 (x5 ++ [(rd_T29 x8 x10).f1]) x8 x9 (wrap64 (x10 + 1))) else (none)) else (head_All.l0 k x1 x5 x8 x9 (wrap64 (x10 + 1))))) else (none)) else (none)) else (some x5)
def head_All.f (k : Nat) (l0 : List (S29)) (a1 : ByteArray) : Option (List ByteArray) := head_All.l0 k a1 ([] : List ByteArray) l0 (l0.length : Int) 0
theorem head_All.mono_l : ∀ k, (∀ y0 y1 y2 y3 y4, LeO (head_All.l0 k y0 y1 y2 y3 y4) (head_All.l0 (k + 1) y0 y1 y2 y3 y4))
  | 0 => fun _ _ _ _ _ r h => by simp [head_All.l0] at h
  | k + 1 => by
    have ih0 := head_All.mono_l k
    · intro y0 y1 y2 y3 y4
      unfold head_All.l0
      repeat' first
      | (with_reducible exact ih0 _ _ _ _ _)
      | (with_reducible exact LeO.refl _)
      | (with_reducible exact LeO.none _)
      | (with_reducible refine LeO.ite ?_ ?_)
      | (with_reducible refine LeO.bind ?_ (fun _ => ?_))
      | exact ih0 _ _ _ _ _
      | exact LeO.none _
      | refine LeO.ite ?_ ?_
      | refine LeO.bind ?_ (fun _ => ?_)
theorem head_All.mono : ∀ a0 a1 k, LeO (head_All.f k a0 a1) (head_All.f (k + 1) a0 a1) := by
  intro a0 a1 k
  have ih0 := head_All.mono_l k
  unfold head_All.f
  repeat' first
      | (with_reducible exact ih0 _ _ _ _ _)
      | (with_reducible exact LeO.refl _)
      | (with_reducible exact LeO.none _)
      | (with_reducible refine LeO.ite ?_ ?_)
      | (with_reducible refine LeO.bind ?_ (fun _ => ?_))
      | exact ih0 _ _ _ _ _
      | exact LeO.none _
      | refine LeO.ite ?_ ?_
      | refine LeO.bind ?_ (fun _ => ?_)
set_option maxHeartbeats 2000000 in
set_option maxRecDepth 100000 in
theorem head_All.calls (k : Nat) (A0 : Option Addr) (c0 : Nat) (l0 : List (S29)) (a1 : ByteArray) (r : List ByteArray) (w : World) (hr0 : Kd.C k29 w A0 l0.length l0) (hc0 : l0.length ≤ c0) (h : head_All.f k l0 a1 = some r) :
    Calls Tryd.prog 12 #[.slice A0 l0.length c0, .string a1] w fun e w' => ∃ v0_ : Value, e = .returned (v0_) ∧ Kd.R Kd.string 9 w' w.heap.size (fun _ => True) v0_ r ∧ Below w.heap.size w w' := by
  have hu29 := Tryd.underlying29
  have HR0 := Aside0.mk hr0
  have HC0 := Aside0.mk hc0
  clear hr0 hc0
  have HB := Aside0.mk (Below.refl w.heap.size w)
  have H : (head_All.l0 k a1 ([] : List ByteArray) l0 (l0.length : Int) 0) = some r := h
  clear h
  have H' := Aside0.mk H
  clear H
  go_enter Tryd.func12, Tryd.ntmps12
  go_wp2
  go_loopg [5, 10] k (fun kq v5 v10 w' => ∃ (x5_1 : List ByteArray) (x10_1 : Int), v10 = .int .i64 x10_1 ∧ Aside0 (head_All.l0 kq a1 x5_1 l0 (l0.length : Int) x10_1 = some r) ∧ Aside0 (kq ≤ k) ∧ Aside0 (Kd.R Kd.string 9 w' w.heap.size (fun _ => True) v5 x5_1) ∧ Aside0 (Below w.heap.size w w'))
  case atStart => exact ⟨(([] : List ByteArray)), (0), (by first | rfl | (simp; done) | (simp [*]; done)), H', ⟨Nat.le_refl _⟩, ⟨by first | exact Kd.R_nil _ _ _ _ _ | exact Kd.N_nil _ _ _ _ _ | exact Kd.V_nil _ _ _ _ _ | exact Kd.Q_nil _ _ _ _ _ | exact Kd.S_nil _ _ _ _ _⟩, ⟨by repeat (first | (with_reducible first | exact HB.out | apply below_alloc | apply pw_below_drewN | apply below_drew1) | exact HB.out)⟩⟩
  case round =>
    clear H'
    try clear c1
    try clear p2
    obtain ⟨x5_1, x10_1, rfl, HA, HK1, HO_5, HB⟩ := hrel
    cases gk with
    | zero => exact absurd HA.out (by simp [head_All.l0])
    | succ k1 =>
      have H := HA.out
      clear HA
      simp only [head_All.l0] at H
      by_cases c3 : x10_1 < (l0.length : Int)
      · rw [if_pos c3] at H
        have c3b0 : decide (x10_1 < (l0.length : Int)) = true := decide_eq_true c3
        clear c3
        by_cases c4 : 0 ≤ x10_1
        · rw [if_pos c4] at H
          have c4b0 : decide (0 ≤ x10_1) = true := decide_eq_true c4
          clear c4
          by_cases c5 : x10_1 < (l0.length : Int)
          · rw [if_pos c5] at H
            have c5b0 : decide (x10_1 < (l0.length : Int)) = true := decide_eq_true c5
            clear c5
            replace H := Option.bind_eq_some_iff.mp H
            obtain ⟨t113, A60, H⟩ := H
            replace H : (if t113 = true then (if x5_1.length < 8796093022208 then (head_All.l0 k1 a1 (x5_1 ++ [(rd_T29 l0 x10_1).f1]) l0 (l0.length : Int) (wrap64 (x10_1 + 1))) else (none)) else (head_All.l0 k1 a1 x5_1 l0 (l0.length : Int) (wrap64 (x10_1 + 1)))) = some r := H
            have A6 := Aside0.mk A60
            clear A60
            by_cases c7 : t113 = true
            · subst c7
              have H1 : (if x5_1.length < 8796093022208 then (head_All.l0 k1 a1 (x5_1 ++ [(rd_T29 l0 x10_1).f1]) l0 (l0.length : Int) (wrap64 (x10_1 + 1))) else (none)) = some r := by rw [if_pos rfl] at H; exact H
              clear H
              have H := H1
              clear H1
              by_cases c8 : x5_1.length < 8796093022208
              · rw [if_pos c8] at H
                have LMc8 := Aside0.mk c8
                clear c8
                obtain ⟨y114, hy114⟩ : ∃ y_ : List ByteArray, y_ = (x5_1 ++ [(rd_T29 l0 x10_1).f1]) := ⟨_, rfl⟩
                replace H : (head_All.l0 k1 a1 y114 l0 (l0.length : Int) (wrap64 (x10_1 + 1))) = some r := by first | (rw [hy114]; with_reducible exact H) | (have H2_ := (Option.bind_some _ _).symm.trans H; rw [hy114]; with_reducible exact H2_) | (have H2_ := (Option.bind_some _ _).symm.trans H; with_reducible exact H2_) | with_reducible exact H | (rw [hy114]; exact H) | exact H
                have Ny114 := Aside0.mk hy114
                clear hy114
                have H' := Aside0.mk H
                clear H
                have p111 : 0 ≤ (x10_1 : Int) := of_decide_eq_true (by first | (with_reducible assumption) | assumption)
                have q111 : x10_1 < (l0.length : Int) := of_decide_eq_true (by first | (with_reducible assumption) | assumption)
                obtain ⟨ad111, e111, hx111_0, hx111_1⟩ := at_T29 HR0.out x10_1 p111 q111
                cases e111
                replace hx111_0 := (HB.out.cell (World.block_lt_of_cell? w _ hx111_0)).trans hx111_0
                replace hx111_1 := (HB.out.cell (World.block_lt_of_cell? w _ hx111_1)).trans hx111_1
                replace p111 := eq_true p111
                replace q111 := eq_true q111
                go_wp2_with (first | ((with_reducible refine gate_dst (N := 7) rfl ?_); refine box_event ?hg (N := 7) ?hd (cs := #[.string (⟨#[]⟩ : ByteArray), .string (⟨#[]⟩ : ByteArray)]) (t := 29) ?hr ?_; (case hd => rfl); (case hg => rfl); (case hr => first | (go_simp; done) | (go_simp; rfl)); intro gb112 hg w9 hbox hb; have n0_ := Aside0.mk (Kd.R_below (by (with_reducible repeat (first | apply Kd.R_alloc | apply Kd.R_drewN | apply Kd.R_drew)); exact HO_5.out) hb); have n1_ := Aside0.mk (below_step (by repeat (first | (with_reducible first | exact HB.out | apply below_alloc | apply pw_below_drewN | apply below_drew1) | exact HB.out)) hb); have n2_ := Aside0.mk (hbox); have n3_ := Aside0.mk ((by rw [hg]; exact (below_size (by repeat (first | (with_reducible first | exact HB.out | apply below_alloc | apply pw_below_drewN | apply below_drew1) | exact HB.out))) : w.heap.size ≤ gb112)); have n4_ := Aside0.mk ((by rw [hg]; exact (below_size (by repeat (first | (with_reducible first | exact HB.out | apply below_alloc | apply pw_below_drewN | apply below_drew1) | exact HB.out))) : w.heap.size ≤ gb112)); clear HO_5; clear HB; have HO_5 := n0_; have HB := n1_; have BK112 := n2_; have GW112 := n3_; have GE112 := n4_; clear n0_ n1_ n2_ n3_ n4_; clear hb hbox hg; have hcz10_0 : w9.cell? ⟨gb112, 0, none⟩ = some (.string (⟨#[]⟩ : ByteArray)) := (blk_cell BK112.out 0).trans rfl; have hcz10_1 : w9.cell? ⟨gb112, 1, none⟩ = some (.string (⟨#[]⟩ : ByteArray)) := (blk_cell BK112.out 1).trans rfl; have hfz10_0 := blk_frozen BK112.out 0; have hfz10_1 := blk_frozen BK112.out 1) | ((with_reducible refine gate_callee (f := 29) rfl ?_); refine goesL_ (some 17) rfl rfl Tryd.func29 (by kernel_rfl) rfl #[.string ((rd_T29 l0 x10_1).f0), .string a1] rfl (by (try simp only [List.map_toArray, List.map_cons, List.map_nil]); first | done | rfl | (simp only [List.length_drop, List.length_take]; rfl)) ?_; (with_reducible refine (head_is.calls ((rd_T29 l0 x10_1).f0) a1 true _ A6.out).mono ?_); rintro e w11 ⟨rfl, hb⟩; refine ⟨_, rfl, ?_⟩; have n0_ := Aside0.mk (Kd.R_below (by (with_reducible repeat (first | apply Kd.R_alloc | apply Kd.R_drewN | apply Kd.R_drew)); exact (Kd.R_mono (Kd.R_far (p := ⟨gb112, 1, none⟩) (Kd.R_far (p := ⟨gb112, 0, none⟩) (Kd.R_types HO_5.out BK112.out (by decide)) (fun _ hk => hk.2) (.string ((rd_T29 l0 x10_1).f0))) (fun _ hk => hk.2) (.string ((rd_T29 l0 x10_1).f1))) (fun _ h_ => h_.1))) hb); have n1_ := Aside0.mk (blk_below (g := gb112) (o := .cells #[.string ((rd_T29 l0 x10_1).f0), .string ((rd_T29 l0 x10_1).f1)] 29 (0, 0)) (by (with_reducible repeat (first | refine blk_drewN ?_ _ | refine blk_drew ?_ | refine blk_alloc ?_ _)); refine blk_put (cs := #[.string ((rd_T29 l0 x10_1).f0), .string (⟨#[]⟩ : ByteArray)]) ?_ 1 _ rfl; (with_reducible repeat (first | refine blk_drewN ?_ _ | refine blk_drew ?_ | refine blk_alloc ?_ _)); refine blk_put (cs := #[.string (⟨#[]⟩ : ByteArray), .string (⟨#[]⟩ : ByteArray)]) ?_ 0 _ rfl; (with_reducible repeat (first | refine blk_drewN ?_ _ | refine blk_drew ?_ | refine blk_alloc ?_ _)); exact BK112.out) hb); have n2_ := Aside0.mk (below_step (by repeat (first | (with_reducible first | exact HB.out | apply below_alloc | apply pw_below_drewN | apply below_drew1 | refine below_set ?_ GE112.out) | exact HB.out)) hb); clear HO_5; clear BK112; clear HB; have HO_5 := n0_; have BK112 := n1_; have HB := n2_; clear n0_ n1_ n2_; (try clear hb); (try clear hb2); (try clear hk); (try clear hi); have hcz12_0 : w11.cell? ⟨gb112, 0, none⟩ = some (.string ((rd_T29 l0 x10_1).f0)) := (blk_cell BK112.out 0).trans rfl; have hcz12_1 : w11.cell? ⟨gb112, 1, none⟩ = some (.string ((rd_T29 l0 x10_1).f1)) := (blk_cell BK112.out 1).trans rfl; have hfz12_0 := blk_frozen BK112.out 0; have hfz12_1 := blk_frozen BK112.out 1) | ((with_reducible refine gate_builtin (b := .append) (xs := #[.tmp 18, .tmp 21]) rfl ?_); at_builtin; refine Kd.R_append Kd.string (w0 := w) w.heap.size rfl (.tmp 18) (.tmp 21) 36 9 (.string ⟨#[]⟩) 16 rfl Tryd.underlying36 info9 rfl (by decide) (by omega) u5 x5_1 ((rd_T29 l0 x10_1).f1) [.string ((rd_T29 l0 x10_1).f1)] (fun _ => True) (fun _ => False) rfl rfl ?aP (fun _ hk => hk.elim) ?aF ?aO ?aB ?aS ?aL ?_; (case aP => exact rfl); (case aB => exact (by repeat (first | (with_reducible first | exact HB.out | apply below_alloc | apply pw_below_drewN | apply below_drew1 | refine below_set ?_ GE112.out) | exact HB.out))); (case aF => exact (fun _ _ => trivial)); (case aO => exact (by (with_reducible repeat (first | apply Kd.R_alloc | apply Kd.R_drewN | apply Kd.R_drew)); exact HO_5.out)); (case aS => exact (below_size (by repeat (first | (with_reducible first | exact HB.out | apply below_alloc | apply pw_below_drewN | apply below_drew1 | refine below_set ?_ GE112.out) | exact HB.out)))); (case aL => have := LMc8.out; omega); intro v115 w13 ho hb hg hat; rw [← Ny114.out] at ho; have n0_ := Aside0.mk (blk_grown (g := gb112) (o := .cells #[.string ((rd_T29 l0 x10_1).f0), .string ((rd_T29 l0 x10_1).f1)] 29 (0, 0)) (by (with_reducible repeat (first | refine blk_drewN ?_ _ | refine blk_drew ?_ | refine blk_alloc ?_ _)); exact BK112.out) hg (Kd.R_ne HO_5.out BK112.out (by decide))); have n1_ := Aside0.mk (hb); have n2_ := Aside0.mk (ho); clear BK112; clear HB; clear HO_5; have BK112 := n0_; have HB := n1_; have HO116 := n2_; clear n0_ n1_ n2_; clear ho hb hg hat))
                go_roundg k1
                case measure => have := HK1.out; omega
                case rel => exact ⟨(y114), (wrap64 (x10_1 + 1)), (by first | rfl | (simp; done) | (simp [*]; done)), H', ⟨by have := HK1.out; omega⟩, ⟨by (with_reducible repeat (first | apply Kd.R_alloc | apply Kd.R_drewN | apply Kd.R_drew)); exact HO116.out⟩, ⟨by repeat (first | (with_reducible first | exact HB.out | apply below_alloc | apply pw_below_drewN | apply below_drew1 | refine below_set ?_ GE112.out) | exact HB.out)⟩⟩
              · rw [if_neg c8] at H
                exact absurd H (by simp)
            · replace c7 := Bool.eq_false_iff.mpr c7
              subst c7
              have H1 : (head_All.l0 k1 a1 x5_1 l0 (l0.length : Int) (wrap64 (x10_1 + 1))) = some r := by rw [if_neg (show ¬ (false = true) by decide)] at H; exact H
              clear H
              have H := H1
              clear H1
              have H' := Aside0.mk H
              clear H
              have p111 : 0 ≤ (x10_1 : Int) := of_decide_eq_true (by first | (with_reducible assumption) | assumption)
              have q111 : x10_1 < (l0.length : Int) := of_decide_eq_true (by first | (with_reducible assumption) | assumption)
              obtain ⟨ad111, e111, hx111_0, hx111_1⟩ := at_T29 HR0.out x10_1 p111 q111
              cases e111
              replace hx111_0 := (HB.out.cell (World.block_lt_of_cell? w _ hx111_0)).trans hx111_0
              replace hx111_1 := (HB.out.cell (World.block_lt_of_cell? w _ hx111_1)).trans hx111_1
              replace p111 := eq_true p111
              replace q111 := eq_true q111
              go_wp2_with (first | ((with_reducible refine gate_dst (N := 7) rfl ?_); refine box_event ?hg (N := 7) ?hd (cs := #[.string (⟨#[]⟩ : ByteArray), .string (⟨#[]⟩ : ByteArray)]) (t := 29) ?hr ?_; (case hd => rfl); (case hg => rfl); (case hr => first | (go_simp; done) | (go_simp; rfl)); intro gb112 hg w14 hbox hb; have n0_ := Aside0.mk (Kd.R_below (by (with_reducible repeat (first | apply Kd.R_alloc | apply Kd.R_drewN | apply Kd.R_drew)); exact HO_5.out) hb); have n1_ := Aside0.mk (below_step (by repeat (first | (with_reducible first | exact HB.out | apply below_alloc | apply pw_below_drewN | apply below_drew1) | exact HB.out)) hb); have n2_ := Aside0.mk (hbox); have n3_ := Aside0.mk ((by rw [hg]; exact (below_size (by repeat (first | (with_reducible first | exact HB.out | apply below_alloc | apply pw_below_drewN | apply below_drew1) | exact HB.out))) : w.heap.size ≤ gb112)); have n4_ := Aside0.mk ((by rw [hg]; exact (below_size (by repeat (first | (with_reducible first | exact HB.out | apply below_alloc | apply pw_below_drewN | apply below_drew1) | exact HB.out))) : w.heap.size ≤ gb112)); clear HO_5; clear HB; have HO_5 := n0_; have HB := n1_; have BK112 := n2_; have GW112 := n3_; have GE112 := n4_; clear n0_ n1_ n2_ n3_ n4_; clear hb hbox hg; have hcz15_0 : w14.cell? ⟨gb112, 0, none⟩ = some (.string (⟨#[]⟩ : ByteArray)) := (blk_cell BK112.out 0).trans rfl; have hcz15_1 : w14.cell? ⟨gb112, 1, none⟩ = some (.string (⟨#[]⟩ : ByteArray)) := (blk_cell BK112.out 1).trans rfl; have hfz15_0 := blk_frozen BK112.out 0; have hfz15_1 := blk_frozen BK112.out 1) | ((with_reducible refine gate_callee (f := 29) rfl ?_); refine goesL_ (some 17) rfl rfl Tryd.func29 (by kernel_rfl) rfl #[.string ((rd_T29 l0 x10_1).f0), .string a1] rfl (by (try simp only [List.map_toArray, List.map_cons, List.map_nil]); first | done | rfl | (simp only [List.length_drop, List.length_take]; rfl)) ?_; (with_reducible refine (head_is.calls ((rd_T29 l0 x10_1).f0) a1 false _ A6.out).mono ?_); rintro e w16 ⟨rfl, hb⟩; refine ⟨_, rfl, ?_⟩; have n0_ := Aside0.mk (Kd.R_below (by (with_reducible repeat (first | apply Kd.R_alloc | apply Kd.R_drewN | apply Kd.R_drew)); exact (Kd.R_mono (Kd.R_far (p := ⟨gb112, 1, none⟩) (Kd.R_far (p := ⟨gb112, 0, none⟩) (Kd.R_types HO_5.out BK112.out (by decide)) (fun _ hk => hk.2) (.string ((rd_T29 l0 x10_1).f0))) (fun _ hk => hk.2) (.string ((rd_T29 l0 x10_1).f1))) (fun _ h_ => h_.1))) hb); have n1_ := Aside0.mk (blk_below (g := gb112) (o := .cells #[.string ((rd_T29 l0 x10_1).f0), .string ((rd_T29 l0 x10_1).f1)] 29 (0, 0)) (by (with_reducible repeat (first | refine blk_drewN ?_ _ | refine blk_drew ?_ | refine blk_alloc ?_ _)); refine blk_put (cs := #[.string ((rd_T29 l0 x10_1).f0), .string (⟨#[]⟩ : ByteArray)]) ?_ 1 _ rfl; (with_reducible repeat (first | refine blk_drewN ?_ _ | refine blk_drew ?_ | refine blk_alloc ?_ _)); refine blk_put (cs := #[.string (⟨#[]⟩ : ByteArray), .string (⟨#[]⟩ : ByteArray)]) ?_ 0 _ rfl; (with_reducible repeat (first | refine blk_drewN ?_ _ | refine blk_drew ?_ | refine blk_alloc ?_ _)); exact BK112.out) hb); have n2_ := Aside0.mk (below_step (by repeat (first | (with_reducible first | exact HB.out | apply below_alloc | apply pw_below_drewN | apply below_drew1 | refine below_set ?_ GE112.out) | exact HB.out)) hb); clear HO_5; clear BK112; clear HB; have HO_5 := n0_; have BK112 := n1_; have HB := n2_; clear n0_ n1_ n2_; (try clear hb); (try clear hb2); (try clear hk); (try clear hi)))
              go_roundg k1
              case measure => have := HK1.out; omega
              case rel => exact ⟨(x5_1), (wrap64 (x10_1 + 1)), (by first | rfl | (simp; done) | (simp [*]; done)), H', ⟨by have := HK1.out; omega⟩, ⟨by (with_reducible repeat (first | apply Kd.R_alloc | apply Kd.R_drewN | apply Kd.R_drew)); exact HO_5.out⟩, ⟨by repeat (first | (with_reducible first | exact HB.out | apply below_alloc | apply pw_below_drewN | apply below_drew1 | refine below_set ?_ GE112.out) | exact HB.out)⟩⟩
          · rw [if_neg c5] at H
            exact absurd H (by simp)
        · rw [if_neg c4] at H
          exact absurd H (by simp)
      · rw [if_neg c3] at H
        have c3b0 : decide (x10_1 < (l0.length : Int)) = false := decide_eq_false c3
        clear c3
        obtain rfl := Option.some.inj H
        go_wp2
        go_ret
        exact ⟨_, by first | rfl | (simp [errW_none, errW_some] <;> rfl) | (simp [*, errW_none, errW_some] <;> rfl), by (with_reducible repeat (first | apply Kd.R_alloc | apply Kd.R_drewN | apply Kd.R_drew)); exact HO_5.out, by repeat (first | (with_reducible first | exact HB.out | apply below_alloc | apply pw_below_drewN | apply below_drew1) | exact HB.out)⟩

/-! ### bits_Sub: function 13 -/
def bits_Sub.f (a0 : Int) (a1 : Int) : Option (Int) := (bits_Clip.f a0).bind fun t117 => ((bits_Clip.f a1).bind fun t118 => ((bits_Clip.f (wrap64 (t117 - t118))).bind fun t119 => (some t119)))
set_option maxHeartbeats 2000000 in
set_option maxRecDepth 100000 in
theorem bits_Sub.calls (a0 : Int) (a1 : Int) (r : Int) (w : World) (h : bits_Sub.f a0 a1 = some r) :
    Calls Tryd.prog 13 #[.int .i64 a0, .int .i64 a1] w fun e w' => e = .returned (.int .i64 r) ∧ Below w.heap.size w w' := by
  have HB := Aside0.mk (Below.refl w.heap.size w)
  have H : ((bits_Clip.f a0).bind fun t117 => ((bits_Clip.f a1).bind fun t118 => ((bits_Clip.f (wrap64 (t117 - t118))).bind fun t119 => (some t119)))) = some r := h
  clear h
  replace H := Option.bind_eq_some_iff.mp H
  obtain ⟨t117, A30, H⟩ := H
  replace H : ((bits_Clip.f a1).bind fun t118 => ((bits_Clip.f (wrap64 (t117 - t118))).bind fun t119 => (some t119))) = some r := H
  have A3 := Aside0.mk A30
  clear A30
  replace H := Option.bind_eq_some_iff.mp H
  obtain ⟨t118, A40, H⟩ := H
  replace H : ((bits_Clip.f (wrap64 (t117 - t118))).bind fun t119 => (some t119)) = some r := H
  have A4 := Aside0.mk A40
  clear A40
  replace H := Option.bind_eq_some_iff.mp H
  obtain ⟨t119, A50, H⟩ := H
  replace H : (some t119) = some r := H
  have A5 := Aside0.mk A50
  clear A50
  obtain rfl := Option.some.inj H
  go_enter Tryd.func13, Tryd.ntmps13
  go_wp2_with (first | ((with_reducible refine gate_callee (f := 14) rfl ?_); refine goesL_ (some 6) rfl rfl Tryd.func14 (by kernel_rfl) rfl #[.int .i64 a0] rfl (by (try simp only [List.map_toArray, List.map_cons, List.map_nil]); first | done | rfl | (simp only [List.length_drop, List.length_take]; rfl)) ?_; (with_reducible refine (bits_Clip.calls a0 t117 _ A3.out).mono ?_); rintro e w6 ⟨rfl, hb⟩; refine ⟨_, rfl, ?_⟩; have n0_ := Aside0.mk (below_step (by repeat (first | (with_reducible first | exact HB.out | apply below_alloc | apply pw_below_drewN | apply below_drew1) | exact HB.out)) hb); clear HB; have HB := n0_; clear n0_; (try clear hb); (try clear hb2); (try clear hk); (try clear hi)) | ((with_reducible refine gate_callee (f := 14) rfl ?_); refine goesL_ (some 8) rfl rfl Tryd.func14 (by kernel_rfl) rfl #[.int .i64 a1] rfl (by (try simp only [List.map_toArray, List.map_cons, List.map_nil]); first | done | rfl | (simp only [List.length_drop, List.length_take]; rfl)) ?_; (with_reducible refine (bits_Clip.calls a1 t118 _ A4.out).mono ?_); rintro e w7 ⟨rfl, hb⟩; refine ⟨_, rfl, ?_⟩; have n0_ := Aside0.mk (below_step (by repeat (first | (with_reducible first | exact HB.out | apply below_alloc | apply pw_below_drewN | apply below_drew1) | exact HB.out)) hb); clear HB; have HB := n0_; clear n0_; (try clear hb); (try clear hb2); (try clear hk); (try clear hi)) | ((with_reducible refine gate_callee (f := 14) rfl ?_); refine goesL_ (some 10) rfl rfl Tryd.func14 (by kernel_rfl) rfl #[.int .i64 (wrap64 (t117 - t118))] rfl (by (try simp only [List.map_toArray, List.map_cons, List.map_nil]); first | done | rfl | (simp only [List.length_drop, List.length_take]; rfl)) ?_; (with_reducible refine (bits_Clip.calls (wrap64 (t117 - t118)) t119 _ A5.out).mono ?_); rintro e w8 ⟨rfl, hb⟩; refine ⟨_, rfl, ?_⟩; have n0_ := Aside0.mk (below_step (by repeat (first | (with_reducible first | exact HB.out | apply below_alloc | apply pw_below_drewN | apply below_drew1) | exact HB.out)) hb); clear HB; have HB := n0_; clear n0_; (try clear hb); (try clear hb2); (try clear hk); (try clear hi)))
  go_ret
  exact ⟨by first | rfl | (simp [errW_none, errW_some] <;> rfl) | (simp [*, errW_none, errW_some] <;> rfl), by repeat (first | (with_reducible first | exact HB.out | apply below_alloc | apply pw_below_drewN | apply below_drew1) | exact HB.out)⟩

/-! ### bits_Add: function 21 -/
def bits_Add.f (a0 : Int) (a1 : Int) : Option (Int) := (bits_Clip.f a0).bind fun t120 => ((bits_Clip.f a1).bind fun t121 => ((bits_Clip.f (wrap64 (t120 + t121))).bind fun t122 => (some t122)))
set_option maxHeartbeats 2000000 in
set_option maxRecDepth 100000 in
theorem bits_Add.calls (a0 : Int) (a1 : Int) (r : Int) (w : World) (h : bits_Add.f a0 a1 = some r) :
    Calls Tryd.prog 21 #[.int .i64 a0, .int .i64 a1] w fun e w' => e = .returned (.int .i64 r) ∧ Below w.heap.size w w' := by
  have HB := Aside0.mk (Below.refl w.heap.size w)
  have H : ((bits_Clip.f a0).bind fun t120 => ((bits_Clip.f a1).bind fun t121 => ((bits_Clip.f (wrap64 (t120 + t121))).bind fun t122 => (some t122)))) = some r := h
  clear h
  replace H := Option.bind_eq_some_iff.mp H
  obtain ⟨t120, A30, H⟩ := H
  replace H : ((bits_Clip.f a1).bind fun t121 => ((bits_Clip.f (wrap64 (t120 + t121))).bind fun t122 => (some t122))) = some r := H
  have A3 := Aside0.mk A30
  clear A30
  replace H := Option.bind_eq_some_iff.mp H
  obtain ⟨t121, A40, H⟩ := H
  replace H : ((bits_Clip.f (wrap64 (t120 + t121))).bind fun t122 => (some t122)) = some r := H
  have A4 := Aside0.mk A40
  clear A40
  replace H := Option.bind_eq_some_iff.mp H
  obtain ⟨t122, A50, H⟩ := H
  replace H : (some t122) = some r := H
  have A5 := Aside0.mk A50
  clear A50
  obtain rfl := Option.some.inj H
  go_enter Tryd.func21, Tryd.ntmps21
  go_wp2_with (first | ((with_reducible refine gate_callee (f := 14) rfl ?_); refine goesL_ (some 6) rfl rfl Tryd.func14 (by kernel_rfl) rfl #[.int .i64 a0] rfl (by (try simp only [List.map_toArray, List.map_cons, List.map_nil]); first | done | rfl | (simp only [List.length_drop, List.length_take]; rfl)) ?_; (with_reducible refine (bits_Clip.calls a0 t120 _ A3.out).mono ?_); rintro e w6 ⟨rfl, hb⟩; refine ⟨_, rfl, ?_⟩; have n0_ := Aside0.mk (below_step (by repeat (first | (with_reducible first | exact HB.out | apply below_alloc | apply pw_below_drewN | apply below_drew1) | exact HB.out)) hb); clear HB; have HB := n0_; clear n0_; (try clear hb); (try clear hb2); (try clear hk); (try clear hi)) | ((with_reducible refine gate_callee (f := 14) rfl ?_); refine goesL_ (some 8) rfl rfl Tryd.func14 (by kernel_rfl) rfl #[.int .i64 a1] rfl (by (try simp only [List.map_toArray, List.map_cons, List.map_nil]); first | done | rfl | (simp only [List.length_drop, List.length_take]; rfl)) ?_; (with_reducible refine (bits_Clip.calls a1 t121 _ A4.out).mono ?_); rintro e w7 ⟨rfl, hb⟩; refine ⟨_, rfl, ?_⟩; have n0_ := Aside0.mk (below_step (by repeat (first | (with_reducible first | exact HB.out | apply below_alloc | apply pw_below_drewN | apply below_drew1) | exact HB.out)) hb); clear HB; have HB := n0_; clear n0_; (try clear hb); (try clear hb2); (try clear hk); (try clear hi)) | ((with_reducible refine gate_callee (f := 14) rfl ?_); refine goesL_ (some 10) rfl rfl Tryd.func14 (by kernel_rfl) rfl #[.int .i64 (wrap64 (t120 + t121))] rfl (by (try simp only [List.map_toArray, List.map_cons, List.map_nil]); first | done | rfl | (simp only [List.length_drop, List.length_take]; rfl)) ?_; (with_reducible refine (bits_Clip.calls (wrap64 (t120 + t121)) t122 _ A5.out).mono ?_); rintro e w8 ⟨rfl, hb⟩; refine ⟨_, rfl, ?_⟩; have n0_ := Aside0.mk (below_step (by repeat (first | (with_reducible first | exact HB.out | apply below_alloc | apply pw_below_drewN | apply below_drew1) | exact HB.out)) hb); clear HB; have HB := n0_; clear n0_; (try clear hb); (try clear hb2); (try clear hk); (try clear hi)))
  go_ret
  exact ⟨by first | rfl | (simp [errW_none, errW_some] <;> rfl) | (simp [*, errW_none, errW_some] <;> rfl), by repeat (first | (with_reducible first | exact HB.out | apply below_alloc | apply pw_below_drewN | apply below_drew1) | exact HB.out)⟩

end Go.Proofs.YtlkbnbkabpodoaaDoor.U
