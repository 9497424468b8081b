-- Written by a program of this session's (wip/xprint.py), out of the seat's translation.
import Derived.Test.YtlkbnbkabpodoaaDoorU0
import Derived.Test.YtlkbnbkabpodoaaDoorU3
import Derived.Test.YtlkbnbkabpodoaaDoorU4
import Derived.Test.YtlkbnbkabpodoaaDoorU8
namespace Go.Proofs.YtlkbnbkabpodoaaDoor.U
open Go.RowKit Go.Proofs.YtlkbnbkabpodoaaDoorW.PrintWords Go.Proofs.YtlkbnbkabpodoaaDoorW.PrintLast Go.Proofs.YtlkbnbkabpodoaaDoorW.PrintMore
attribute [local go_sem] max2_int min2_int max_two min_two max_three min_three max_four min_four   -- for this text's walks alone
set_option linter.unusedVariables false
set_option linter.unusedSimpArgs false

/-! ### sprref19_Failing: function 16 -/
set_option maxHeartbeats 4000000 in
set_option maxRecDepth 100000 in
theorem sprref19_Failing.own (k : Nat) (sh : Bool) (A1 : Option Addr) (c1 : Nat) (l1 : List S29) (A2 : Option Addr) (c2 : Nat) (l2 : List S29) (old life : Int) (a s : Own.Ctl) (w : World) (hr1 : Kd.C k29 w A1 l1.length l1) (hc1 : l1.length ≤ c1) (hr2 : Kd.C k29 w A2 l2.length l2) (hc2 : l2.length ≤ c2) (ha : sprref19_wish.R k l1 = some a) (hs : sprref19_control.R k l2 = some s) :
    Calls Tryd.prog 16 #[.bool sh, .slice A1 l1.length c1, .slice A2 l2.length c2, .int .i64 old, .int .i64 life] w fun e w' => e = .returned (.bool (failB sh a s (subI old life))) ∧ Below w.heap.size w w' := by
  have hu35 := Tryd.underlying50
  have hu33 := Tryd.underlying48
  have HR1 := Aside0.mk hr1
  have HR2 := Aside0.mk hr2
  have HC1 := Aside0.mk hc1
  have HC2 := Aside0.mk hc2
  have HWA := Aside0.mk ha
  have HWS := Aside0.mk hs
  have HBF := Aside0.mk (Below.refl w.heap.size w)
  have HSA : Aside0 (some 21 = some a.cells.size) := ⟨rfl⟩
  have HSS : Aside0 (some 21 = some s.cells.size) := ⟨rfl⟩
  clear hr1 hr2 hc1 hc2 ha hs
  go_enter Tryd.func16, Tryd.ntmps16
  go_upto_region 3 with (first | (go_at_call 30; (with_reducible refine (sprref19_wish.own k A1 c1 l1 a _ (Kd.C_below HR1.out HBF.out) HC1.out HWA.out).mono ?_); rintro e w3 ⟨rfl, hb⟩; have n0_ := Aside0.mk (HBF.out.trans (hb.mono HBF.out.size)); clear HBF hb; have HBF := n0_; clear n0_) | (go_at_call 31; (with_reducible refine (sprref19_control.own k A2 c2 l2 s _ (Kd.C_below HR2.out HBF.out) HC2.out HWS.out).mono ?_); rintro e w4 ⟨rfl, hb⟩; have n0_ := Aside0.mk (HBF.out.trans (hb.mono HBF.out.size)); clear HBF hb; have HBF := n0_; clear n0_) | ((with_reducible refine gate_store (t := 50) (p := 11) rfl ?_); refine wpList_store_row rfl 50 _ _ rfl w4.heap.size a.cells rfl rfl 50 Own.Ctl.zero.cells (blk_alloc (blk_new w4 _) _) (rinfo.trans HSA.out) rfl (by simp [Own.Ctl.cells, Value.oneCell']) ?_) | ((with_reducible refine gate_store (t := 50) (p := 12) rfl ?_); obtain ⟨wy, hwy⟩ : ∃ wy, wy = (w4.alloc (.cells #[.bool false, .bool false, .bool false, .bool false, .bool false, .bool false, .bool false, .bool false, .bool false, .bool false, .bool false, .bool false, .int .i64 0, .bool false, .int .i64 0, .bool false, .int .i64 0, .bool false, .int .i64 0, .bool false, .int .i64 0] 50)).alloc (.cells #[.bool false, .bool false, .bool false, .bool false, .bool false, .bool false, .bool false, .bool false, .bool false, .bool false, .bool false, .bool false, .int .i64 0, .bool false, .int .i64 0, .bool false, .int .i64 0, .bool false, .int .i64 0, .bool false, .int .i64 0] 50) := ⟨_, rfl⟩; have hby := (by rw [hwy]; exact (HBF.out.alloc HBF.out.size _).alloc (by rw [World.size_alloc]; have := HBF.out.size; omega) _ : Below w.heap.size w wy); have hy0 := (by rw [hwy]; exact blk_alloc (blk_new w4 _) _ : wy.heap[w4.heap.size]? = some (.cells Own.Ctl.zero.cells 50 (0, 0))); have hy1 := (by rw [hwy]; exact heap_alloc2_new w4 _ _ : wy.heap[w4.heap.size + 1]? = some (.cells Own.Ctl.zero.cells 50 (0, 0))); obtain ⟨wv, hwv⟩ : ∃ wv, wv = wy.setRow w4.heap.size a.cells := ⟨_, rfl⟩; have hv1 := (by rw [hwv]; exact (setRow_other _ _ _ _ (by omega)).trans hy1 : wv.heap[w4.heap.size + 1]? = some (.cells Own.Ctl.zero.cells 50 (0, 0))); have hv0 := (by rw [hwv]; exact setRow_heap _ _ _ _ _ _ hy0 : wv.heap[w4.heap.size]? = some (.cells a.cells 50 (0, 0))); rw [← hwy, ← hwv]; refine wpList_store_row rfl 50 _ _ rfl (w4.heap.size + 1) s.cells rfl rfl 50 Own.Ctl.zero.cells hv1 (rinfo.trans HSS.out) rfl (by simp [Own.Ctl.cells, Value.oneCell']) ?_; obtain ⟨wf, hwf⟩ : ∃ wf, wf = wv.setRow (w4.heap.size + 1) s.cells := ⟨_, rfl⟩; have HA := Aside0.mk (by rw [hwf]; exact (setRow_other _ _ _ _ (by omega)).trans hv0 : wf.heap[w4.heap.size]? = some (.cells a.cells 50 (0, 0))); have HS := Aside0.mk (by rw [hwf]; exact setRow_heap _ _ _ _ _ _ hv1 : wf.heap[w4.heap.size + 1]? = some (.cells s.cells 50 (0, 0))); have n0_ := Aside0.mk (by rw [hwf, hwv]; exact sprref19_control.below (sprref19_control.below hby HBF.out.size _) (by have := HBF.out.size; omega) _ : Below w.heap.size w wf); rw [← hwf]; clear hwf hwv hwy hy0 hy1 hv0 hv1 hby HBF; have HBF := n0_; clear n0_; generalize w4.heap.size = B0 at *) | (go_at_call 35; (with_reducible refine (sprref1_Sub.calls old life _ _ (SubR_is old life)).mono ?_); rintro e w1 ⟨rfl, hb⟩; have n0_ := Aside0.mk (HBF.out.trans (hb.mono HBF.out.size)); have n1_ := Aside0.mk (blk_below HA.out hb); have n2_ := Aside0.mk (blk_below HS.out hb); clear HBF HA HS hb; have HBF := n0_; have HA := n1_; have HS := n2_; clear n0_ n1_ n2_))
  generalize hl : subI old life = late at *
  have HL := Aside0.mk hl
  clear hl
  cases qs : strictB sh s with
  | true =>
    have QS := Aside0.mk qs
    clear qs
    go_wp2_with (first | ((with_reducible refine gate_dst (N := 22) rfl ?_); refine wpList_load_row rfl 50 (.tmp 12) rfl (B0 + 1) rfl 50 s.cells (0, 0) _ HS.out hu35 rfl (rinfo.trans HSS.out) ?_) | (go_at_call 34; (with_reducible refine (sprref19_strict.own sh s _).mono ?_); rintro e w5 ⟨rfl, hb⟩; have n0_ := Aside0.mk (HBF.out.trans (hb.mono HBF.out.size)); have n1_ := Aside0.mk (blk_below HA.out hb); have n2_ := Aside0.mk (blk_below HS.out hb); clear HBF HA HS hb; have HBF := n0_; have HA := n1_; have HS := n2_; clear n0_ n1_ n2_; rw [QS.out]; skip))
    go_ret
    exact ⟨by rw [HL.out, show failB sh a s late = false by unfold failB; simp [QS.out]]; rfl, HBF.out⟩
  | false =>
    have QS := Aside0.mk qs
    clear qs
    cases q1 : a.b1 with
    | true =>
      have Q1 := Aside0.mk q1
      clear q1
      go_wp2_with (first | ((with_reducible refine gate_dst (N := 22) rfl ?_); refine wpList_load_row rfl 50 (.tmp 12) rfl (B0 + 1) rfl 50 s.cells (0, 0) _ HS.out hu35 rfl (rinfo.trans HSS.out) ?_) | (go_at_call 34; (with_reducible refine (sprref19_strict.own sh s _).mono ?_); rintro e w5 ⟨rfl, hb⟩; have n0_ := Aside0.mk (HBF.out.trans (hb.mono HBF.out.size)); have n1_ := Aside0.mk (blk_below HA.out hb); have n2_ := Aside0.mk (blk_below HS.out hb); clear HBF HA HS hb; have HBF := n0_; have HA := n1_; have HS := n2_; clear n0_ n1_ n2_; rw [QS.out]; have ca1 := (blk_cell HA.out 1).trans (show a.cells[1]? = some (.bool true) by show some (Value.bool a.b1) = _; rw [Q1.out])))
      go_ret
      exact ⟨by rw [HL.out, show failB sh a s late = false by unfold failB; simp [QS.out, Q1.out]]; rfl, HBF.out⟩
    | false =>
      have Q1 := Aside0.mk q1
      clear q1
      cases q2 : s.b1 with
      | true =>
        have Q2 := Aside0.mk q2
        clear q2
        go_wp2_with (first | ((with_reducible refine gate_dst (N := 22) rfl ?_); refine wpList_load_row rfl 50 (.tmp 12) rfl (B0 + 1) rfl 50 s.cells (0, 0) _ HS.out hu35 rfl (rinfo.trans HSS.out) ?_) | (go_at_call 34; (with_reducible refine (sprref19_strict.own sh s _).mono ?_); rintro e w5 ⟨rfl, hb⟩; have n0_ := Aside0.mk (HBF.out.trans (hb.mono HBF.out.size)); have n1_ := Aside0.mk (blk_below HA.out hb); have n2_ := Aside0.mk (blk_below HS.out hb); clear HBF HA HS hb; have HBF := n0_; have HA := n1_; have HS := n2_; clear n0_ n1_ n2_; rw [QS.out]; have ca1 := (blk_cell HA.out 1).trans (show a.cells[1]? = some (.bool false) by show some (Value.bool a.b1) = _; rw [Q1.out]); have cs1 := (blk_cell HS.out 1).trans (show s.cells[1]? = some (.bool true) by show some (Value.bool s.b1) = _; rw [Q2.out])))
        go_ret
        exact ⟨by rw [HL.out, show failB sh a s late = false by unfold failB; simp [QS.out, Q1.out, Q2.out]]; rfl, HBF.out⟩
      | false =>
        have Q2 := Aside0.mk q2
        clear q2
        cases q4 : a.h4 with
        | false =>
          have Q4 := Aside0.mk q4
          clear q4
          cases q6 : s.h4 with
          | false =>
            have Q6 := Aside0.mk q6
            clear q6
            go_wp2_with (first | ((with_reducible refine gate_dst (N := 22) rfl ?_); refine wpList_load_row rfl 50 (.tmp 12) rfl (B0 + 1) rfl 50 s.cells (0, 0) _ HS.out hu35 rfl (rinfo.trans HSS.out) ?_) | (go_at_call 34; (with_reducible refine (sprref19_strict.own sh s _).mono ?_); rintro e w5 ⟨rfl, hb⟩; have n0_ := Aside0.mk (HBF.out.trans (hb.mono HBF.out.size)); have n1_ := Aside0.mk (blk_below HA.out hb); have n2_ := Aside0.mk (blk_below HS.out hb); clear HBF HA HS hb; have HBF := n0_; have HA := n1_; have HS := n2_; clear n0_ n1_ n2_; rw [QS.out]; have ca1 := (blk_cell HA.out 1).trans (show a.cells[1]? = some (.bool false) by show some (Value.bool a.b1) = _; rw [Q1.out]); have cs1 := (blk_cell HS.out 1).trans (show s.cells[1]? = some (.bool false) by show some (Value.bool s.b1) = _; rw [Q2.out]); have ca19 := (blk_cell HA.out 19).trans (show a.cells[19]? = some (.bool false) by show some (Value.bool a.h4) = _; rw [Q4.out]); have cs19 := (blk_cell HS.out 19).trans (show s.cells[19]? = some (.bool false) by show some (Value.bool s.h4) = _; rw [Q6.out])))
            go_ret
            exact ⟨by rw [HL.out, show failB sh a s late = false by unfold failB; simp [QS.out, Q1.out, Q2.out, Q4.out, Q6.out]]; rfl, HBF.out⟩
          | true =>
            have Q6 := Aside0.mk q6
            clear q6
            by_cases q7 : s.n4 ≥ late
            · have d7 : decide (s.n4 ≥ late) = true := decide_eq_true q7
              have D7 := Aside0.mk d7
              clear q7
              go_wp2_with (first | ((with_reducible refine gate_dst (N := 22) rfl ?_); refine wpList_load_row rfl 50 (.tmp 12) rfl (B0 + 1) rfl 50 s.cells (0, 0) _ HS.out hu35 rfl (rinfo.trans HSS.out) ?_) | (go_at_call 34; (with_reducible refine (sprref19_strict.own sh s _).mono ?_); rintro e w5 ⟨rfl, hb⟩; have n0_ := Aside0.mk (HBF.out.trans (hb.mono HBF.out.size)); have n1_ := Aside0.mk (blk_below HA.out hb); have n2_ := Aside0.mk (blk_below HS.out hb); clear HBF HA HS hb; have HBF := n0_; have HA := n1_; have HS := n2_; clear n0_ n1_ n2_; rw [QS.out]; have ca1 := (blk_cell HA.out 1).trans (show a.cells[1]? = some (.bool false) by show some (Value.bool a.b1) = _; rw [Q1.out]); have cs1 := (blk_cell HS.out 1).trans (show s.cells[1]? = some (.bool false) by show some (Value.bool s.b1) = _; rw [Q2.out]); have ca19 := (blk_cell HA.out 19).trans (show a.cells[19]? = some (.bool false) by show some (Value.bool a.h4) = _; rw [Q4.out]); have cs19 := (blk_cell HS.out 19).trans (show s.cells[19]? = some (.bool true) by show some (Value.bool s.h4) = _; rw [Q6.out]); have cs20 := (blk_cell HS.out 20).trans (show s.cells[20]? = some (.int .i64 s.n4) from rfl)))
              go_ret
              exact ⟨by rw [HL.out, show failB sh a s late = true by unfold failB; simp [QS.out, Q1.out, Q2.out, Q4.out, Q6.out, D7.out]]; rfl, HBF.out⟩
            · have d7 : decide (s.n4 ≥ late) = false := decide_eq_false q7
              have D7 := Aside0.mk d7
              clear q7
              go_wp2_with (first | ((with_reducible refine gate_dst (N := 22) rfl ?_); refine wpList_load_row rfl 50 (.tmp 12) rfl (B0 + 1) rfl 50 s.cells (0, 0) _ HS.out hu35 rfl (rinfo.trans HSS.out) ?_) | (go_at_call 34; (with_reducible refine (sprref19_strict.own sh s _).mono ?_); rintro e w5 ⟨rfl, hb⟩; have n0_ := Aside0.mk (HBF.out.trans (hb.mono HBF.out.size)); have n1_ := Aside0.mk (blk_below HA.out hb); have n2_ := Aside0.mk (blk_below HS.out hb); clear HBF HA HS hb; have HBF := n0_; have HA := n1_; have HS := n2_; clear n0_ n1_ n2_; rw [QS.out]; have ca1 := (blk_cell HA.out 1).trans (show a.cells[1]? = some (.bool false) by show some (Value.bool a.b1) = _; rw [Q1.out]); have cs1 := (blk_cell HS.out 1).trans (show s.cells[1]? = some (.bool false) by show some (Value.bool s.b1) = _; rw [Q2.out]); have ca19 := (blk_cell HA.out 19).trans (show a.cells[19]? = some (.bool false) by show some (Value.bool a.h4) = _; rw [Q4.out]); have cs19 := (blk_cell HS.out 19).trans (show s.cells[19]? = some (.bool true) by show some (Value.bool s.h4) = _; rw [Q6.out]); have cs20 := (blk_cell HS.out 20).trans (show s.cells[20]? = some (.int .i64 s.n4) from rfl)))
              go_ret
              exact ⟨by rw [HL.out, show failB sh a s late = false by unfold failB; simp [QS.out, Q1.out, Q2.out, Q4.out, Q6.out, D7.out]]; rfl, HBF.out⟩
        | true =>
          have Q4 := Aside0.mk q4
          clear q4
          by_cases q5 : a.n4 ≥ late
          · have d5 : decide (a.n4 ≥ late) = true := decide_eq_true q5
            have D5 := Aside0.mk d5
            clear q5
            go_wp2_with (first | ((with_reducible refine gate_dst (N := 22) rfl ?_); refine wpList_load_row rfl 50 (.tmp 12) rfl (B0 + 1) rfl 50 s.cells (0, 0) _ HS.out hu35 rfl (rinfo.trans HSS.out) ?_) | (go_at_call 34; (with_reducible refine (sprref19_strict.own sh s _).mono ?_); rintro e w5 ⟨rfl, hb⟩; have n0_ := Aside0.mk (HBF.out.trans (hb.mono HBF.out.size)); have n1_ := Aside0.mk (blk_below HA.out hb); have n2_ := Aside0.mk (blk_below HS.out hb); clear HBF HA HS hb; have HBF := n0_; have HA := n1_; have HS := n2_; clear n0_ n1_ n2_; rw [QS.out]; have ca1 := (blk_cell HA.out 1).trans (show a.cells[1]? = some (.bool false) by show some (Value.bool a.b1) = _; rw [Q1.out]); have cs1 := (blk_cell HS.out 1).trans (show s.cells[1]? = some (.bool false) by show some (Value.bool s.b1) = _; rw [Q2.out]); have ca19 := (blk_cell HA.out 19).trans (show a.cells[19]? = some (.bool true) by show some (Value.bool a.h4) = _; rw [Q4.out]); have ca20 := (blk_cell HA.out 20).trans (show a.cells[20]? = some (.int .i64 a.n4) from rfl)))
            go_ret
            exact ⟨by rw [HL.out, show failB sh a s late = true by unfold failB; simp [QS.out, Q1.out, Q2.out, Q4.out, D5.out]]; rfl, HBF.out⟩
          · have d5 : decide (a.n4 ≥ late) = false := decide_eq_false q5
            have D5 := Aside0.mk d5
            clear q5
            cases q6 : s.h4 with
            | false =>
              have Q6 := Aside0.mk q6
              clear q6
              go_wp2_with (first | ((with_reducible refine gate_dst (N := 22) rfl ?_); refine wpList_load_row rfl 50 (.tmp 12) rfl (B0 + 1) rfl 50 s.cells (0, 0) _ HS.out hu35 rfl (rinfo.trans HSS.out) ?_) | (go_at_call 34; (with_reducible refine (sprref19_strict.own sh s _).mono ?_); rintro e w5 ⟨rfl, hb⟩; have n0_ := Aside0.mk (HBF.out.trans (hb.mono HBF.out.size)); have n1_ := Aside0.mk (blk_below HA.out hb); have n2_ := Aside0.mk (blk_below HS.out hb); clear HBF HA HS hb; have HBF := n0_; have HA := n1_; have HS := n2_; clear n0_ n1_ n2_; rw [QS.out]; have ca1 := (blk_cell HA.out 1).trans (show a.cells[1]? = some (.bool false) by show some (Value.bool a.b1) = _; rw [Q1.out]); have cs1 := (blk_cell HS.out 1).trans (show s.cells[1]? = some (.bool false) by show some (Value.bool s.b1) = _; rw [Q2.out]); have ca19 := (blk_cell HA.out 19).trans (show a.cells[19]? = some (.bool true) by show some (Value.bool a.h4) = _; rw [Q4.out]); have ca20 := (blk_cell HA.out 20).trans (show a.cells[20]? = some (.int .i64 a.n4) from rfl); have cs19 := (blk_cell HS.out 19).trans (show s.cells[19]? = some (.bool false) by show some (Value.bool s.h4) = _; rw [Q6.out])))
              go_ret
              exact ⟨by rw [HL.out, show failB sh a s late = false by unfold failB; simp [QS.out, Q1.out, Q2.out, Q4.out, D5.out, Q6.out]]; rfl, HBF.out⟩
            | true =>
              have Q6 := Aside0.mk q6
              clear q6
              by_cases q7 : s.n4 ≥ late
              · have d7 : decide (s.n4 ≥ late) = true := decide_eq_true q7
                have D7 := Aside0.mk d7
                clear q7
                go_wp2_with (first | ((with_reducible refine gate_dst (N := 22) rfl ?_); refine wpList_load_row rfl 50 (.tmp 12) rfl (B0 + 1) rfl 50 s.cells (0, 0) _ HS.out hu35 rfl (rinfo.trans HSS.out) ?_) | (go_at_call 34; (with_reducible refine (sprref19_strict.own sh s _).mono ?_); rintro e w5 ⟨rfl, hb⟩; have n0_ := Aside0.mk (HBF.out.trans (hb.mono HBF.out.size)); have n1_ := Aside0.mk (blk_below HA.out hb); have n2_ := Aside0.mk (blk_below HS.out hb); clear HBF HA HS hb; have HBF := n0_; have HA := n1_; have HS := n2_; clear n0_ n1_ n2_; rw [QS.out]; have ca1 := (blk_cell HA.out 1).trans (show a.cells[1]? = some (.bool false) by show some (Value.bool a.b1) = _; rw [Q1.out]); have cs1 := (blk_cell HS.out 1).trans (show s.cells[1]? = some (.bool false) by show some (Value.bool s.b1) = _; rw [Q2.out]); have ca19 := (blk_cell HA.out 19).trans (show a.cells[19]? = some (.bool true) by show some (Value.bool a.h4) = _; rw [Q4.out]); have ca20 := (blk_cell HA.out 20).trans (show a.cells[20]? = some (.int .i64 a.n4) from rfl); have cs19 := (blk_cell HS.out 19).trans (show s.cells[19]? = some (.bool true) by show some (Value.bool s.h4) = _; rw [Q6.out]); have cs20 := (blk_cell HS.out 20).trans (show s.cells[20]? = some (.int .i64 s.n4) from rfl)))
                go_ret
                exact ⟨by rw [HL.out, show failB sh a s late = true by unfold failB; simp [QS.out, Q1.out, Q2.out, Q4.out, D5.out, Q6.out, D7.out]]; rfl, HBF.out⟩
              · have d7 : decide (s.n4 ≥ late) = false := decide_eq_false q7
                have D7 := Aside0.mk d7
                clear q7
                go_wp2_with (first | ((with_reducible refine gate_dst (N := 22) rfl ?_); refine wpList_load_row rfl 50 (.tmp 12) rfl (B0 + 1) rfl 50 s.cells (0, 0) _ HS.out hu35 rfl (rinfo.trans HSS.out) ?_) | (go_at_call 34; (with_reducible refine (sprref19_strict.own sh s _).mono ?_); rintro e w5 ⟨rfl, hb⟩; have n0_ := Aside0.mk (HBF.out.trans (hb.mono HBF.out.size)); have n1_ := Aside0.mk (blk_below HA.out hb); have n2_ := Aside0.mk (blk_below HS.out hb); clear HBF HA HS hb; have HBF := n0_; have HA := n1_; have HS := n2_; clear n0_ n1_ n2_; rw [QS.out]; have ca1 := (blk_cell HA.out 1).trans (show a.cells[1]? = some (.bool false) by show some (Value.bool a.b1) = _; rw [Q1.out]); have cs1 := (blk_cell HS.out 1).trans (show s.cells[1]? = some (.bool false) by show some (Value.bool s.b1) = _; rw [Q2.out]); have ca19 := (blk_cell HA.out 19).trans (show a.cells[19]? = some (.bool true) by show some (Value.bool a.h4) = _; rw [Q4.out]); have ca20 := (blk_cell HA.out 20).trans (show a.cells[20]? = some (.int .i64 a.n4) from rfl); have cs19 := (blk_cell HS.out 19).trans (show s.cells[19]? = some (.bool true) by show some (Value.bool s.h4) = _; rw [Q6.out]); have cs20 := (blk_cell HS.out 20).trans (show s.cells[20]? = some (.int .i64 s.n4) from rfl)))
                go_ret
                exact ⟨by rw [HL.out, show failB sh a s late = false by unfold failB; simp [QS.out, Q1.out, Q2.out, Q4.out, D5.out, Q6.out, D7.out]]; rfl, HBF.out⟩
def sprref19_Failing.f (k : Nat) (a0 : Bool) (l1 : List S29) (l2 : List S29) (a3 : Int) (a4 : Int) : Option (Bool) := (sprref19_wish.R k l1).bind fun a => (sprref19_control.R k l2).bind fun s => some (failB a0 a s (subI a3 a4))
theorem sprref19_Failing.mono : ∀ a0 a1 a2 a3 a4 k, LeO (sprref19_Failing.f k a0 a1 a2 a3 a4) (sprref19_Failing.f (k + 1) a0 a1 a2 a3 a4) := by
  intro a0 a1 a2 a3 a4 k
  unfold sprref19_Failing.f
  exact LeO.bind (sprref19_wish.monoR k _) fun _ => LeO.bind (sprref19_control.monoR k _) fun _ => LeO.refl _
theorem sprref19_Failing.calls (k : Nat) (a0 : Bool) (A1 : Option Addr) (c1 : Nat) (l1 : List S29) (A2 : Option Addr) (c2 : Nat) (l2 : List S29) (a3 : Int) (a4 : Int) (r : Bool) (w : World) (hr1 : Kd.C k29 w A1 l1.length l1) (hc1 : l1.length ≤ c1) (hr2 : Kd.C k29 w A2 l2.length l2) (hc2 : l2.length ≤ c2) (h : sprref19_Failing.f k a0 l1 l2 a3 a4 = some r) :
    Calls Tryd.prog 16 #[.bool a0, .slice A1 l1.length c1, .slice A2 l2.length c2, .int .i64 a3, .int .i64 a4] w fun e w' => e = .returned (.bool r) ∧ Below w.heap.size w w' := by
  unfold sprref19_Failing.f at h
  obtain ⟨a, h1, h⟩ := Option.bind_eq_some_iff.1 h
  obtain ⟨s, h2, h⟩ := Option.bind_eq_some_iff.1 h
  obtain rfl := Option.some.inj h
  exact sprref19_Failing.own k a0 A1 c1 l1 A2 c2 l2 a3 a4 a s w hr1 hc1 hr2 hc2 h1 h2


/-! ### use_Only: function 17 -/
set_option maxHeartbeats 1000000 in
set_option maxRecDepth 100000 in
theorem use_Only.own (k : Nat) (A : Option Addr) (c0 : Nat) (l : List S29) (c : Own.Ctl) (w : World) (hr0 : Kd.C k29 w A l.length l) (hc0 : l.length ≤ c0) (h : use_wish.R k l = some c) :
    Calls Tryd.prog 17 #[.slice A l.length c0] w fun e w' => e = .returned (.bool c.b6) ∧ Below w.heap.size w w' := by
  have hu35 := Tryd.underlying34
  have HR0 := Aside0.mk hr0
  have HC0 := Aside0.mk hc0
  have H1 := Aside0.mk h
  have k1 : ∀ W, Kd.C k29 W A l.length l → Calls Tryd.prog 19 #[.slice A l.length c0] W fun e w' => e = .returned (.agg #[.bool c.b0, .bool c.b1, .bool c.b2, .bool c.b3, .bool c.b4, .bool c.b5, .bool c.b6, .bool c.b7, .bool c.b8, .bool c.b9, .bool c.b10, .bool c.h0, .int .i64 c.n0, .bool c.h1, .int .i64 c.n1, .bool c.h2, .int .i64 c.n2, .bool c.h3, .int .i64 c.n3, .bool c.h4, .int .i64 c.n4]) ∧ Below W.heap.size W w' := fun W hr => use_wish.own k A c0 l c W hr hc0 h
  have kf : ∀ W, (Instr.field 34 (.agg #[.bool c.b0, .bool c.b1, .bool c.b2, .bool c.b3, .bool c.b4, .bool c.b5, .bool c.b6, .bool c.b7, .bool c.b8, .bool c.b9, .bool c.b10, .bool c.h0, .int .i64 c.n0, .bool c.h1, .int .i64 c.n1, .bool c.h2, .int .i64 c.n2, .bool c.h3, .int .i64 c.n3, .bool c.h4, .int .i64 c.n4]) 6).run Tryd.prog W = .ok (.bool c.b6) W := fun W => by kernel_rfl
  clear hr0 hc0 h
  go_enter Tryd.func17, Tryd.ntmps17
  go_wp2_with (go_at_call 19; (with_reducible refine (k1 _ HR0.out).mono ?_); rintro e w2 ⟨rfl, hb⟩; have HB := Aside0.mk hb; clear hb)
  go_ret
  exact ⟨rfl, HB.out⟩
def use_Only.f (k : Nat) (l0 : List S29) : Option (Bool) := (use_wish.R k l0).bind fun c => some c.b6
theorem use_Only.mono : ∀ a0 k, LeO (use_Only.f k a0) (use_Only.f (k + 1) a0) := fun _ k => LeO.bind (use_wish.monoR k _) fun _ => LeO.refl _
theorem use_Only.calls (k : Nat) (A0 : Option Addr) (c0 : Nat) (l0 : List S29) (r : Bool) (w : World) (hr0 : Kd.C k29 w A0 l0.length l0) (hc0 : l0.length ≤ c0) (h : use_Only.f k l0 = some r) :
    Calls Tryd.prog 17 #[.slice A0 l0.length c0] w fun e w' => e = .returned (.bool r) ∧ Below w.heap.size w w' := by
  unfold use_Only.f at h
  obtain ⟨c, h1, h⟩ := Option.bind_eq_some_iff.1 h
  obtain rfl := Option.some.inj h
  exact use_Only.own k A0 c0 l0 c w hr0 hc0 h1


/-! ### sprref19_Only: function 18 -/
set_option maxHeartbeats 1000000 in
set_option maxRecDepth 100000 in
theorem sprref19_Only.own (k : Nat) (A : Option Addr) (c0 : Nat) (l : List S29) (c : Own.Ctl) (w : World) (hr0 : Kd.C k29 w A l.length l) (hc0 : l.length ≤ c0) (h : sprref19_wish.R k l = some c) :
    Calls Tryd.prog 18 #[.slice A l.length c0] w fun e w' => e = .returned (.bool c.b6) ∧ Below w.heap.size w w' := by
  have hu35 := Tryd.underlying50
  have HR0 := Aside0.mk hr0
  have HC0 := Aside0.mk hc0
  have H1 := Aside0.mk h
  have k1 : ∀ W, Kd.C k29 W A l.length l → Calls Tryd.prog 30 #[.slice A l.length c0] W fun e w' => e = .returned (.agg #[.bool c.b0, .bool c.b1, .bool c.b2, .bool c.b3, .bool c.b4, .bool c.b5, .bool c.b6, .bool c.b7, .bool c.b8, .bool c.b9, .bool c.b10, .bool c.h0, .int .i64 c.n0, .bool c.h1, .int .i64 c.n1, .bool c.h2, .int .i64 c.n2, .bool c.h3, .int .i64 c.n3, .bool c.h4, .int .i64 c.n4]) ∧ Below W.heap.size W w' := fun W hr => sprref19_wish.own k A c0 l c W hr hc0 h
  have kf : ∀ W, (Instr.field 50 (.agg #[.bool c.b0, .bool c.b1, .bool c.b2, .bool c.b3, .bool c.b4, .bool c.b5, .bool c.b6, .bool c.b7, .bool c.b8, .bool c.b9, .bool c.b10, .bool c.h0, .int .i64 c.n0, .bool c.h1, .int .i64 c.n1, .bool c.h2, .int .i64 c.n2, .bool c.h3, .int .i64 c.n3, .bool c.h4, .int .i64 c.n4]) 6).run Tryd.prog W = .ok (.bool c.b6) W := fun W => by kernel_rfl
  clear hr0 hc0 h
  go_enter Tryd.func18, Tryd.ntmps18
  go_wp2_with (go_at_call 30; (with_reducible refine (k1 _ HR0.out).mono ?_); rintro e w2 ⟨rfl, hb⟩; have HB := Aside0.mk hb; clear hb)
  go_ret
  exact ⟨rfl, HB.out⟩
def sprref19_Only.f (k : Nat) (l0 : List S29) : Option (Bool) := (sprref19_wish.R k l0).bind fun c => some c.b6
theorem sprref19_Only.mono : ∀ a0 k, LeO (sprref19_Only.f k a0) (sprref19_Only.f (k + 1) a0) := fun _ k => LeO.bind (sprref19_wish.monoR k _) fun _ => LeO.refl _
theorem sprref19_Only.calls (k : Nat) (A0 : Option Addr) (c0 : Nat) (l0 : List S29) (r : Bool) (w : World) (hr0 : Kd.C k29 w A0 l0.length l0) (hc0 : l0.length ≤ c0) (h : sprref19_Only.f k l0 = some r) :
    Calls Tryd.prog 18 #[.slice A0 l0.length c0] w fun e w' => e = .returned (.bool r) ∧ Below w.heap.size w w' := by
  unfold sprref19_Only.f at h
  obtain ⟨c, h1, h⟩ := Option.bind_eq_some_iff.1 h
  obtain rfl := Option.some.inj h
  exact sprref19_Only.own k A0 c0 l0 c w hr0 hc0 h1


/-! ### sprlaw21_UseDecides: function 5 -/
def sprlaw21_UseDecides.j0 : Nat → Bool → List (S29) → List (S29) → Int → Int → Bool → Option (Bool)
  | 0, _, _, _, _, _, _ => none
  | k + 1, x0, x1, x2, x3, x4, x20 => if x20 = true then ((sprlaw21_first.f k).bind fun t165 => (some t165)) else ((sprlaw21_first.f k).bind fun t166 => (if t166 = true then ((use_Decide.f k x0 x1 x2 x3 x4).bind fun t167 => ((sprref19_Decide.f k x0 x1 x2 x3 x4).bind fun t168 => (if t167 = t168 then ((use_Failing.f k x0 x1 x2 x3 x4).bind fun t169 => ((sprref19_Failing.f k x0 x1 x2 x3 x4).bind fun t170 => (if (t169 == t170) = true then ((use_Only.f k x1).bind fun t171 => ((sprref19_Only.f k x1).bind fun t172 => (some (t171 == t172)))) else (some false)))) else (some false)))) else (some false)))
def sprlaw21_UseDecides.f (k : Nat) (a0 : Bool) (l1 : List (S29)) (l2 : List (S29)) (a3 : Int) (a4 : Int) : Option (Bool) := (sprlaw21_first.f k).bind fun t162 => (if t162 = true then ((sprlaw13_Few.f k l1).bind fun t163 => (if t163 = true then ((sprlaw13_Few.f k l2).bind fun t164 => (sprlaw21_UseDecides.j0 k a0 l1 l2 a3 a4 (!t164))) else (sprlaw21_UseDecides.j0 k a0 l1 l2 a3 a4 true))) else (some false))
theorem sprlaw21_UseDecides.mono_l : ∀ k, (∀ y0 y1 y2 y3 y4 y5, LeO (sprlaw21_UseDecides.j0 k y0 y1 y2 y3 y4 y5) (sprlaw21_UseDecides.j0 (k + 1) y0 y1 y2 y3 y4 y5))
  | 0 => fun _ _ _ _ _ _ r h => by simp [sprlaw21_UseDecides.j0] at h
  | k + 1 => by
    have ih0 := sprlaw21_UseDecides.mono_l k
    · intro y0 y1 y2 y3 y4 y5
      unfold sprlaw21_UseDecides.j0
      repeat' first
      | (with_reducible exact ih0 _ _ _ _ _ _)
      | (with_reducible exact sprlaw13_Few.mono _ _)
      | (with_reducible exact sprlaw21_first.mono _)
      | (with_reducible exact sprref19_Decide.mono _ _ _ _ _ _)
      | (with_reducible exact sprref19_Failing.mono _ _ _ _ _ _)
      | (with_reducible exact sprref19_Only.mono _ _)
      | (with_reducible exact use_Decide.mono _ _ _ _ _ _)
      | (with_reducible exact use_Failing.mono _ _ _ _ _ _)
      | (with_reducible exact use_Only.mono _ _)
      | (with_reducible exact LeO.refl _)
      | (with_reducible exact LeO.none _)
      | (with_reducible refine LeO.ite ?_ ?_)
      | (with_reducible refine LeO.bind ?_ (fun _ => ?_))
      | exact ih0 _ _ _ _ _ _
      | exact sprlaw13_Few.mono _ _
      | exact sprlaw21_first.mono _
      | exact sprref19_Decide.mono _ _ _ _ _ _
      | exact sprref19_Failing.mono _ _ _ _ _ _
      | exact sprref19_Only.mono _ _
      | exact use_Decide.mono _ _ _ _ _ _
      | exact use_Failing.mono _ _ _ _ _ _
      | exact use_Only.mono _ _
      | exact LeO.none _
      | refine LeO.ite ?_ ?_
      | refine LeO.bind ?_ (fun _ => ?_)
theorem sprlaw21_UseDecides.mono : ∀ a0 a1 a2 a3 a4 k, LeO (sprlaw21_UseDecides.f k a0 a1 a2 a3 a4) (sprlaw21_UseDecides.f (k + 1) a0 a1 a2 a3 a4) := by
  intro a0 a1 a2 a3 a4 k
  have ih0 := sprlaw21_UseDecides.mono_l k
  unfold sprlaw21_UseDecides.f
  repeat' first
      | (with_reducible exact ih0 _ _ _ _ _ _)
      | (with_reducible exact sprlaw13_Few.mono _ _)
      | (with_reducible exact sprlaw21_first.mono _)
      | (with_reducible exact sprref19_Decide.mono _ _ _ _ _ _)
      | (with_reducible exact sprref19_Failing.mono _ _ _ _ _ _)
      | (with_reducible exact sprref19_Only.mono _ _)
      | (with_reducible exact use_Decide.mono _ _ _ _ _ _)
      | (with_reducible exact use_Failing.mono _ _ _ _ _ _)
      | (with_reducible exact use_Only.mono _ _)
      | (with_reducible exact LeO.refl _)
      | (with_reducible exact LeO.none _)
      | (with_reducible refine LeO.ite ?_ ?_)
      | (with_reducible refine LeO.bind ?_ (fun _ => ?_))
      | exact ih0 _ _ _ _ _ _
      | exact sprlaw13_Few.mono _ _
      | exact sprlaw21_first.mono _
      | exact sprref19_Decide.mono _ _ _ _ _ _
      | exact sprref19_Failing.mono _ _ _ _ _ _
      | exact sprref19_Only.mono _ _
      | exact use_Decide.mono _ _ _ _ _ _
      | exact use_Failing.mono _ _ _ _ _ _
      | exact use_Only.mono _ _
      | exact LeO.none _
      | refine LeO.ite ?_ ?_
      | refine LeO.bind ?_ (fun _ => ?_)
set_option maxHeartbeats 2000000 in
set_option maxRecDepth 100000 in
theorem sprlaw21_UseDecides.calls (k : Nat) (a0 : Bool) (A1 : Option Addr) (c1 : Nat) (l1 : List (S29)) (A2 : Option Addr) (c2 : Nat) (l2 : List (S29)) (a3 : Int) (a4 : Int) (r : Bool) (w : World) (hr1 : Kd.C k29 w A1 l1.length l1) (hc1 : l1.length ≤ c1) (hr2 : Kd.C k29 w A2 l2.length l2) (hc2 : l2.length ≤ c2) (h : sprlaw21_UseDecides.f k a0 l1 l2 a3 a4 = some r) (hT : Aside0 (r = true)) :
    Calls Tryd.prog 5 #[.bool a0, .slice A1 l1.length c1, .slice A2 l2.length c2, .int .i64 a3, .int .i64 a4] w fun e w' => e = .returned (.bool r) ∧ Below w.heap.size w w' := by
  have HR1 := Aside0.mk hr1
  have HC1 := Aside0.mk hc1
  clear hr1 hc1
  have HR2 := Aside0.mk hr2
  have HC2 := Aside0.mk hc2
  clear hr2 hc2
  have HB := Aside0.mk (Below.refl w.heap.size w)
  have H : ((sprlaw21_first.f k).bind fun t162 => (if t162 = true then ((sprlaw13_Few.f k l1).bind fun t163 => (if t163 = true then ((sprlaw13_Few.f k l2).bind fun t164 => (sprlaw21_UseDecides.j0 k a0 l1 l2 a3 a4 (!t164))) else (sprlaw21_UseDecides.j0 k a0 l1 l2 a3 a4 true))) else (some false))) = some r := h
  clear h
  replace H := Option.bind_eq_some_iff.mp H
  obtain ⟨t162, A60, H⟩ := H
  replace H : (if t162 = true then ((sprlaw13_Few.f k l1).bind fun t163 => (if t163 = true then ((sprlaw13_Few.f k l2).bind fun t164 => (sprlaw21_UseDecides.j0 k a0 l1 l2 a3 a4 (!t164))) else (sprlaw21_UseDecides.j0 k a0 l1 l2 a3 a4 true))) else (some false)) = some r := H
  have A6 := Aside0.mk A60
  clear A60
  by_cases c7 : t162 = true
  · subst c7
    have H1 : ((sprlaw13_Few.f k l1).bind fun t163 => (if t163 = true then ((sprlaw13_Few.f k l2).bind fun t164 => (sprlaw21_UseDecides.j0 k a0 l1 l2 a3 a4 (!t164))) else (sprlaw21_UseDecides.j0 k a0 l1 l2 a3 a4 true))) = some r := by rw [if_pos rfl] at H; exact H
    clear H
    have H := H1
    clear H1
    have HC8 := Aside0.mk H
    clear H
    go_enter Tryd.func5, Tryd.ntmps5
    go_upto_region 3 with (first | ((with_reducible refine gate_callee (f := 6) rfl ?_); refine goesL_ (some 11) rfl rfl Tryd.func6 (by kernel_rfl) rfl #[] rfl (by (try simp only [List.map_toArray, List.map_cons, List.map_nil]); first | done | rfl | (simp only [List.length_drop, List.length_take]; rfl)) ?_; (with_reducible refine (sprlaw21_first.calls k  true _ A6.out).mono ?_); rintro e w9 ⟨rfl, hb⟩; refine ⟨_, rfl, ?_⟩; have n0_ := Aside0.mk (below_step (by repeat (first | (with_reducible first | exact HB.out | apply below_alloc | apply pw_below_drewN | apply below_drew1) | exact HB.out)) hb); clear HB; have HB := n0_; clear n0_; (try clear hb); (try clear hb2); (try clear hk); (try clear hi)))
    (try simp only [Act.put, List.setIfInBounds_toArray, List.set_cons_zero, List.set_cons_succ])
    go_cut [20] (fun v20 wc => ∃ (kq : Nat) (x20_7 : Bool), v20 = .bool x20_7 ∧ Aside0 (sprlaw21_UseDecides.j0 kq a0 l1 l2 a3 a4 x20_7 = some r) ∧ Aside0 (kq ≤ k) ∧ Aside0 (Below w.heap.size w wc))
    case first =>
      have H := HC8.out
      clear HC8
      replace H := Option.bind_eq_some_iff.mp H
      obtain ⟨t163, A100, H⟩ := H
      replace H : (if t163 = true then ((sprlaw13_Few.f k l2).bind fun t164 => (sprlaw21_UseDecides.j0 k a0 l1 l2 a3 a4 (!t164))) else (sprlaw21_UseDecides.j0 k a0 l1 l2 a3 a4 true)) = some r := H
      have A10 := Aside0.mk A100
      clear A100
      by_cases c11 : t163 = true
      · subst c11
        have H1 : ((sprlaw13_Few.f k l2).bind fun t164 => (sprlaw21_UseDecides.j0 k a0 l1 l2 a3 a4 (!t164))) = some r := by rw [if_pos rfl] at H; exact H
        clear H
        have H := H1
        clear H1
        replace H := Option.bind_eq_some_iff.mp H
        obtain ⟨t164, A120, H⟩ := H
        replace H : (sprlaw21_UseDecides.j0 k a0 l1 l2 a3 a4 (!t164)) = some r := H
        have A12 := Aside0.mk A120
        clear A120
        have H' := Aside0.mk H
        clear H
        go_wp2_with (first | ((with_reducible refine gate_callee (f := 7) rfl ?_); refine goesL_ (some 14) rfl rfl Tryd.func7 (by kernel_rfl) rfl #[.slice A1 l1.length c1] rfl (by (try simp only [List.map_toArray, List.map_cons, List.map_nil]); first | done | rfl | (simp only [List.length_drop, List.length_take]; rfl)) ?_; (with_reducible refine (sprlaw13_Few.calls k _ _ l1 true _ ?side1 ?side2 A10.out).mono ?_); (case side1 => repeat (first | exact (Kd.C_below HR1.out HB.out) | (with_reducible refine Kd.C_alloc ?_ _) | (with_reducible refine Kd.C_drewN ?_ _) | (with_reducible refine Kd.C_drew ?_))); (case side2 => exact HC1.out); rintro e w13 ⟨rfl, hb⟩; refine ⟨_, rfl, ?_⟩; have n0_ := Aside0.mk (below_step (by repeat (first | (with_reducible first | exact HB.out | apply below_alloc | apply pw_below_drewN | apply below_drew1) | exact HB.out)) hb); clear HB; have HB := n0_; clear n0_; (try clear hb); (try clear hb2); (try clear hk); (try clear hi)) | (go_at_call 7; (with_reducible refine (sprlaw13_Few.calls k _ _ l2 t164 _ ?side1 ?side2 A12.out).mono ?_); (case side1 => repeat (first | exact (Kd.C_below HR2.out HB.out) | (with_reducible refine Kd.C_alloc ?_ _) | (with_reducible refine Kd.C_drewN ?_ _) | (with_reducible refine Kd.C_drew ?_))); (case side2 => exact HC2.out); rintro e w14 ⟨rfl, hb⟩; have n0_ := Aside0.mk (below_step (by repeat (first | (with_reducible first | exact HB.out | apply below_alloc | apply pw_below_drewN | apply below_drew1) | exact HB.out)) hb); clear HB; have HB := n0_; clear n0_; (try clear hb); (try clear hb2); (try clear hk); (try clear hi)))
        go_meet
        case rel => exact ⟨_, (!t164), (by first | rfl | (simp; done) | (simp [*]; done)), H', ⟨by first | omega | exact Nat.le_refl _⟩, ⟨by repeat (first | (with_reducible first | exact HB.out | apply below_alloc | apply pw_below_drewN | apply below_drew1) | exact HB.out)⟩⟩
      · replace c11 := Bool.eq_false_iff.mpr c11
        subst c11
        have H1 : (sprlaw21_UseDecides.j0 k a0 l1 l2 a3 a4 true) = some r := by rw [if_neg (show ¬ (false = true) by decide)] at H; exact H
        clear H
        have H := H1
        clear H1
        have H' := Aside0.mk H
        clear H
        go_wp2_with (first | ((with_reducible refine gate_callee (f := 7) rfl ?_); refine goesL_ (some 14) rfl rfl Tryd.func7 (by kernel_rfl) rfl #[.slice A1 l1.length c1] rfl (by (try simp only [List.map_toArray, List.map_cons, List.map_nil]); first | done | rfl | (simp only [List.length_drop, List.length_take]; rfl)) ?_; (with_reducible refine (sprlaw13_Few.calls k _ _ l1 false _ ?side1 ?side2 A10.out).mono ?_); (case side1 => repeat (first | exact (Kd.C_below HR1.out HB.out) | (with_reducible refine Kd.C_alloc ?_ _) | (with_reducible refine Kd.C_drewN ?_ _) | (with_reducible refine Kd.C_drew ?_))); (case side2 => exact HC1.out); rintro e w15 ⟨rfl, hb⟩; refine ⟨_, rfl, ?_⟩; have n0_ := Aside0.mk (below_step (by repeat (first | (with_reducible first | exact HB.out | apply below_alloc | apply pw_below_drewN | apply below_drew1) | exact HB.out)) hb); clear HB; have HB := n0_; clear n0_; (try clear hb); (try clear hb2); (try clear hk); (try clear hi)))
        go_meet
        case rel => exact ⟨_, (true), (by first | rfl | (simp; done) | (simp [*]; done)), H', ⟨by first | omega | exact Nat.le_refl _⟩, ⟨by repeat (first | (with_reducible first | exact HB.out | apply below_alloc | apply pw_below_drewN | apply below_drew1) | exact HB.out)⟩⟩
    case rest =>
      clear HC8
      try clear c1
      try clear c2
      try clear p2
      try clear c5
      try clear c6
      try clear c7
      try clear c11
      obtain ⟨kq, x20_7, rfl, HA, HJ7, HB⟩ := hcut
      cases kq with
      | zero => exact absurd HA.out (by simp [sprlaw21_UseDecides.j0])
      | succ kj7 =>
        have H := HA.out
        clear HA
        simp only [sprlaw21_UseDecides.j0] at H
        by_cases c16 : x20_7 = true
        · subst c16
          have H1 : ((sprlaw21_first.f kj7).bind fun t165 => (some t165)) = some r := by rw [if_pos rfl] at H; exact H
          clear H
          have H := H1
          clear H1
          replace H := Option.bind_eq_some_iff.mp H
          obtain ⟨t165, A170, H⟩ := H
          replace H : (some t165) = some r := H
          have A17 := Aside0.mk A170
          clear A170
          obtain rfl := Option.some.inj H
          go_wp2_with (first | ((with_reducible refine gate_callee (f := 6) rfl ?_); refine goesL_ (some 21) rfl rfl Tryd.func6 (by kernel_rfl) rfl #[] rfl (by (try simp only [List.map_toArray, List.map_cons, List.map_nil]); first | done | rfl | (simp only [List.length_drop, List.length_take]; rfl)) ?_; (with_reducible refine (sprlaw21_first.calls kj7  t165 _ A17.out).mono ?_); rintro e w18 ⟨rfl, hb⟩; refine ⟨_, rfl, ?_⟩; have n0_ := Aside0.mk (below_step (by repeat (first | (with_reducible first | exact HB.out | apply below_alloc | apply pw_below_drewN | apply below_drew1) | exact HB.out)) hb); clear HB; have HB := n0_; clear n0_; (try clear hb); (try clear hb2); (try clear hk); (try clear hi)))
          go_ret
          exact ⟨by first | rfl | (simp [errW_none, errW_some] <;> rfl) | (simp [*, errW_none, errW_some] <;> rfl), by repeat (first | (with_reducible first | exact HB.out | apply below_alloc | apply pw_below_drewN | apply below_drew1) | exact HB.out)⟩
        · replace c16 := Bool.eq_false_iff.mpr c16
          subst c16
          have H1 : ((sprlaw21_first.f kj7).bind fun t166 => (if t166 = true then ((use_Decide.f kj7 a0 l1 l2 a3 a4).bind fun t167 => ((sprref19_Decide.f kj7 a0 l1 l2 a3 a4).bind fun t168 => (if t167 = t168 then ((use_Failing.f kj7 a0 l1 l2 a3 a4).bind fun t169 => ((sprref19_Failing.f kj7 a0 l1 l2 a3 a4).bind fun t170 => (if (t169 == t170) = true then ((use_Only.f kj7 l1).bind fun t171 => ((sprref19_Only.f kj7 l1).bind fun t172 => (some (t171 == t172)))) else (some false)))) else (some false)))) else (some false))) = some r := by rw [if_neg (show ¬ (false = true) by decide)] at H; exact H
          clear H
          have H := H1
          clear H1
          replace H := Option.bind_eq_some_iff.mp H
          obtain ⟨t166, A190, H⟩ := H
          replace H : (if t166 = true then ((use_Decide.f kj7 a0 l1 l2 a3 a4).bind fun t167 => ((sprref19_Decide.f kj7 a0 l1 l2 a3 a4).bind fun t168 => (if t167 = t168 then ((use_Failing.f kj7 a0 l1 l2 a3 a4).bind fun t169 => ((sprref19_Failing.f kj7 a0 l1 l2 a3 a4).bind fun t170 => (if (t169 == t170) = true then ((use_Only.f kj7 l1).bind fun t171 => ((sprref19_Only.f kj7 l1).bind fun t172 => (some (t171 == t172)))) else (some false)))) else (some false)))) else (some false)) = some r := H
          have A19 := Aside0.mk A190
          clear A190
          by_cases c20 : t166 = true
          · subst c20
            have H1 : ((use_Decide.f kj7 a0 l1 l2 a3 a4).bind fun t167 => ((sprref19_Decide.f kj7 a0 l1 l2 a3 a4).bind fun t168 => (if t167 = t168 then ((use_Failing.f kj7 a0 l1 l2 a3 a4).bind fun t169 => ((sprref19_Failing.f kj7 a0 l1 l2 a3 a4).bind fun t170 => (if (t169 == t170) = true then ((use_Only.f kj7 l1).bind fun t171 => ((sprref19_Only.f kj7 l1).bind fun t172 => (some (t171 == t172)))) else (some false)))) else (some false)))) = some r := by rw [if_pos rfl] at H; exact H
            clear H
            have H := H1
            clear H1
            replace H := Option.bind_eq_some_iff.mp H
            obtain ⟨t167, A210, H⟩ := H
            replace H : ((sprref19_Decide.f kj7 a0 l1 l2 a3 a4).bind fun t168 => (if t167 = t168 then ((use_Failing.f kj7 a0 l1 l2 a3 a4).bind fun t169 => ((sprref19_Failing.f kj7 a0 l1 l2 a3 a4).bind fun t170 => (if (t169 == t170) = true then ((use_Only.f kj7 l1).bind fun t171 => ((sprref19_Only.f kj7 l1).bind fun t172 => (some (t171 == t172)))) else (some false)))) else (some false))) = some r := H
            have A21 := Aside0.mk A210
            clear A210
            replace H := Option.bind_eq_some_iff.mp H
            obtain ⟨t168, A220, H⟩ := H
            replace H : (if t167 = t168 then ((use_Failing.f kj7 a0 l1 l2 a3 a4).bind fun t169 => ((sprref19_Failing.f kj7 a0 l1 l2 a3 a4).bind fun t170 => (if (t169 == t170) = true then ((use_Only.f kj7 l1).bind fun t171 => ((sprref19_Only.f kj7 l1).bind fun t172 => (some (t171 == t172)))) else (some false)))) else (some false)) = some r := H
            have A22 := Aside0.mk A220
            clear A220
            by_cases c23 : t167 = t168
            · rw [if_pos c23] at H
              have c23b0 : (t167 == t168) = true := beq_iff_eq.mpr c23
              have c23b1 : (t167 != t168) = false := bne_eq_false_iff_eq.mpr c23
              clear c23
              replace H := Option.bind_eq_some_iff.mp H
              obtain ⟨t169, A240, H⟩ := H
              replace H : ((sprref19_Failing.f kj7 a0 l1 l2 a3 a4).bind fun t170 => (if (t169 == t170) = true then ((use_Only.f kj7 l1).bind fun t171 => ((sprref19_Only.f kj7 l1).bind fun t172 => (some (t171 == t172)))) else (some false))) = some r := H
              have A24 := Aside0.mk A240
              clear A240
              replace H := Option.bind_eq_some_iff.mp H
              obtain ⟨t170, A250, H⟩ := H
              replace H : (if (t169 == t170) = true then ((use_Only.f kj7 l1).bind fun t171 => ((sprref19_Only.f kj7 l1).bind fun t172 => (some (t171 == t172)))) else (some false)) = some r := H
              have A25 := Aside0.mk A250
              clear A250
              by_cases c26 : (t169 == t170) = true
              · rw [if_pos c26] at H
                have c26b0 : (t169 == t170) = true := c26
                (try (have c26b1 : decide (t169 = t170) = true := by simpa using c26))
                (try (have c26b2 : (t169 == t170) = true := by simpa using c26))
                clear c26
                replace H := Option.bind_eq_some_iff.mp H
                obtain ⟨t171, A270, H⟩ := H
                replace H : ((sprref19_Only.f kj7 l1).bind fun t172 => (some (t171 == t172))) = some r := H
                have A27 := Aside0.mk A270
                clear A270
                replace H := Option.bind_eq_some_iff.mp H
                obtain ⟨t172, A280, H⟩ := H
                replace H : (some (t171 == t172)) = some r := H
                have A28 := Aside0.mk A280
                clear A280
                obtain rfl := Option.some.inj H
                go_wp2_with (first | ((with_reducible refine gate_callee (f := 6) rfl ?_); refine goesL_ (some 22) rfl rfl Tryd.func6 (by kernel_rfl) rfl #[] rfl (by (try simp only [List.map_toArray, List.map_cons, List.map_nil]); first | done | rfl | (simp only [List.length_drop, List.length_take]; rfl)) ?_; (with_reducible refine (sprlaw21_first.calls kj7  true _ A19.out).mono ?_); rintro e w29 ⟨rfl, hb⟩; refine ⟨_, rfl, ?_⟩; have n0_ := Aside0.mk (below_step (by repeat (first | (with_reducible first | exact HB.out | apply below_alloc | apply pw_below_drewN | apply below_drew1) | exact HB.out)) hb); clear HB; have HB := n0_; clear n0_; (try clear hb); (try clear hb2); (try clear hk); (try clear hi)) | (go_at_call 8; (with_reducible refine (use_Decide.calls kj7 a0 _ _ l1 _ _ l2 a3 a4 t167 _ ?side1 ?side2 ?side3 ?side4 A21.out).mono ?_); (case side1 => repeat (first | exact (Kd.C_below HR1.out HB.out) | (with_reducible refine Kd.C_alloc ?_ _) | (with_reducible refine Kd.C_drewN ?_ _) | (with_reducible refine Kd.C_drew ?_))); (case side2 => exact HC1.out); (case side3 => repeat (first | exact (Kd.C_below HR2.out HB.out) | (with_reducible refine Kd.C_alloc ?_ _) | (with_reducible refine Kd.C_drewN ?_ _) | (with_reducible refine Kd.C_drew ?_))); (case side4 => exact HC2.out); rintro e w30 ⟨rfl, hb⟩; have n0_ := Aside0.mk (below_step (by repeat (first | (with_reducible first | exact HB.out | apply below_alloc | apply pw_below_drewN | apply below_drew1) | exact HB.out)) hb); clear HB; have HB := n0_; clear n0_; (try clear hb); (try clear hb2); (try clear hk); (try clear hi)) | (go_at_call 15; (with_reducible refine (sprref19_Decide.calls kj7 a0 _ _ l1 _ _ l2 a3 a4 t168 _ ?side1 ?side2 ?side3 ?side4 A22.out).mono ?_); (case side1 => repeat (first | exact (Kd.C_below HR1.out HB.out) | (with_reducible refine Kd.C_alloc ?_ _) | (with_reducible refine Kd.C_drewN ?_ _) | (with_reducible refine Kd.C_drew ?_))); (case side2 => exact HC1.out); (case side3 => repeat (first | exact (Kd.C_below HR2.out HB.out) | (with_reducible refine Kd.C_alloc ?_ _) | (with_reducible refine Kd.C_drewN ?_ _) | (with_reducible refine Kd.C_drew ?_))); (case side4 => exact HC2.out); rintro e w31 ⟨rfl, hb⟩; have n0_ := Aside0.mk (below_step (by repeat (first | (with_reducible first | exact HB.out | apply below_alloc | apply pw_below_drewN | apply below_drew1) | exact HB.out)) hb); clear HB; have HB := n0_; clear n0_; (try clear hb); (try clear hb2); (try clear hk); (try clear hi)) | (go_at_call 9; (with_reducible refine (use_Failing.calls kj7 a0 _ _ l1 _ _ l2 a3 a4 t169 _ ?side1 ?side2 ?side3 ?side4 A24.out).mono ?_); (case side1 => repeat (first | exact (Kd.C_below HR1.out HB.out) | (with_reducible refine Kd.C_alloc ?_ _) | (with_reducible refine Kd.C_drewN ?_ _) | (with_reducible refine Kd.C_drew ?_))); (case side2 => exact HC1.out); (case side3 => repeat (first | exact (Kd.C_below HR2.out HB.out) | (with_reducible refine Kd.C_alloc ?_ _) | (with_reducible refine Kd.C_drewN ?_ _) | (with_reducible refine Kd.C_drew ?_))); (case side4 => exact HC2.out); rintro e w32 ⟨rfl, hb⟩; have n0_ := Aside0.mk (below_step (by repeat (first | (with_reducible first | exact HB.out | apply below_alloc | apply pw_below_drewN | apply below_drew1) | exact HB.out)) hb); clear HB; have HB := n0_; clear n0_; (try clear hb); (try clear hb2); (try clear hk); (try clear hi)) | (go_at_call 16; (with_reducible refine (sprref19_Failing.calls kj7 a0 _ _ l1 _ _ l2 a3 a4 t170 _ ?side1 ?side2 ?side3 ?side4 A25.out).mono ?_); (case side1 => repeat (first | exact (Kd.C_below HR1.out HB.out) | (with_reducible refine Kd.C_alloc ?_ _) | (with_reducible refine Kd.C_drewN ?_ _) | (with_reducible refine Kd.C_drew ?_))); (case side2 => exact HC1.out); (case side3 => repeat (first | exact (Kd.C_below HR2.out HB.out) | (with_reducible refine Kd.C_alloc ?_ _) | (with_reducible refine Kd.C_drewN ?_ _) | (with_reducible refine Kd.C_drew ?_))); (case side4 => exact HC2.out); rintro e w33 ⟨rfl, hb⟩; have n0_ := Aside0.mk (below_step (by repeat (first | (with_reducible first | exact HB.out | apply below_alloc | apply pw_below_drewN | apply below_drew1) | exact HB.out)) hb); clear HB; have HB := n0_; clear n0_; (try clear hb); (try clear hb2); (try clear hk); (try clear hi)) | (go_at_call 17; (with_reducible refine (use_Only.calls kj7 _ _ l1 t171 _ ?side1 ?side2 A27.out).mono ?_); (case side1 => repeat (first | exact (Kd.C_below HR1.out HB.out) | (with_reducible refine Kd.C_alloc ?_ _) | (with_reducible refine Kd.C_drewN ?_ _) | (with_reducible refine Kd.C_drew ?_))); (case side2 => exact HC1.out); rintro e w34 ⟨rfl, hb⟩; have n0_ := Aside0.mk (below_step (by repeat (first | (with_reducible first | exact HB.out | apply below_alloc | apply pw_below_drewN | apply below_drew1) | exact HB.out)) hb); clear HB; have HB := n0_; clear n0_; (try clear hb); (try clear hb2); (try clear hk); (try clear hi)) | (go_at_call 18; (with_reducible refine (sprref19_Only.calls kj7 _ _ l1 t172 _ ?side1 ?side2 A28.out).mono ?_); (case side1 => repeat (first | exact (Kd.C_below HR1.out HB.out) | (with_reducible refine Kd.C_alloc ?_ _) | (with_reducible refine Kd.C_drewN ?_ _) | (with_reducible refine Kd.C_drew ?_))); (case side2 => exact HC1.out); rintro e w35 ⟨rfl, hb⟩; have n0_ := Aside0.mk (below_step (by repeat (first | (with_reducible first | exact HB.out | apply below_alloc | apply pw_below_drewN | apply below_drew1) | exact HB.out)) hb); clear HB; have HB := n0_; clear n0_; (try clear hb); (try clear hb2); (try clear hk); (try clear hi)))
                go_ret
                exact ⟨by first | rfl | (simp [errW_none, errW_some] <;> rfl) | (simp [*, errW_none, errW_some] <;> rfl), by repeat (first | (with_reducible first | exact HB.out | apply below_alloc | apply pw_below_drewN | apply below_drew1) | exact HB.out)⟩
              · rw [if_neg c26] at H
                have c26b0 : (t169 == t170) = false := by simpa using c26
                (try (have c26b1 : decide (t169 = t170) = false := by simpa using c26))
                (try (have c26b2 : (t169 == t170) = false := by simpa using c26))
                (try (have c26b3 : ¬ (t169 = t170) := by simpa using c26))
                clear c26
                exact absurd ((Option.some.inj H).trans hT.out) (by decide)
            · rw [if_neg c23] at H
              have c23b0 : (t167 == t168) = false := beq_eq_false_iff_ne.mpr c23
              have c23b1 : (t167 != t168) = true := bne_iff_ne.mpr c23
              exact absurd ((Option.some.inj H).trans hT.out) (by decide)
          · replace c20 := Bool.eq_false_iff.mpr c20
            subst c20
            have H1 : (some false) = some r := by rw [if_neg (show ¬ (false = true) by decide)] at H; exact H
            clear H
            have H := H1
            clear H1
            exact absurd ((Option.some.inj H).trans hT.out) (by decide)
  · replace c7 := Bool.eq_false_iff.mpr c7
    subst c7
    have H1 : (some false) = some r := by rw [if_neg (show ¬ (false = true) by decide)] at H; exact H
    clear H
    have H := H1
    clear H1
    exact absurd ((Option.some.inj H).trans hT.out) (by decide)

end Go.Proofs.YtlkbnbkabpodoaaDoor.U
