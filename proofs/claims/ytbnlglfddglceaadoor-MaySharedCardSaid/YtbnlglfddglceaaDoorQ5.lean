-- Written by a program of this session's (wip/xprint.py), out of the seat's translation.
import Derived.Test.YtbnlglfddglceaaDoorQ0
import Derived.Test.YtbnlglfddglceaaDoorQ1
import Derived.Test.YtbnlglfddglceaaDoorQ2
import Derived.Test.YtbnlglfddglceaaDoorQ3
import Derived.Test.YtbnlglfddglceaaDoorQ4
namespace Go.Proofs.YtbnlglfddglceaaDoor.Q
open Go.RowKit Go.Proofs.YtbnlglfddglceaaDoorW.PrintWords Go.Proofs.YtbnlglfddglceaaDoorW.PrintLast Go.Proofs.YtbnlglfddglceaaDoorW.PrintMore
attribute [local go_sem] max2_int min2_int max_two min_two max_three min_three max_four min_four   -- for this text's walks alone
set_option linter.unusedVariables false
set_option linter.unusedSimpArgs false

/-! ### vary_Parse: function 19 -/
def vary_Parse.l0 : Nat → List ByteArray → List ByteArray → Int → Int → Bool → List ByteArray → Option (Bool × List ByteArray)
  | 0, _, _, _, _, _, _ => none
  | k + 1, x4, x9, x10, x11, x140000, x140001 => if x11 < x10 then (if 0 ≤ x11 then (if x11 < (x9.length : Int) then (if (rdOf ByteArray.empty x9 x11).toList = ([42] : List UInt8) then (some (true, ([] : List ByteArray))) else ((head_Name.f k (rdOf ByteArray.empty x9 x11)).bind fun t144 => (if t144 = true then ((head_Lower.f (rdOf ByteArray.empty x9 x11)).bind fun t145 => (if x140001.length < 8796093022208 then (vary_Parse.l0 k x4 x9 x10 (wrap64 (x11 + 1)) x140000 (x140001 ++ [t145])) else (none))) else (some (true, ([] : List ByteArray)))))) else (none)) else (none)) else (if (x4.length : Int) > 64 then (some (true, ([] : List ByteArray))) else ((slices_SortS.f x140001).bind fun _ => ((slices_CompactS.f x140001).bind fun t149 => (some (x140000, t149)))))
def vary_Parse.f (k : Nat) (l0 : List ByteArray) : Option (Bool × List ByteArray) := (head_Split.f k l0).bind fun t140 => (vary_Parse.l0 k t140 t140 (t140.length : Int) 0 false ([] : List ByteArray))
theorem vary_Parse.mono_l : ∀ k, (∀ y0 y1 y2 y3 y4 y5, LeO (vary_Parse.l0 k y0 y1 y2 y3 y4 y5) (vary_Parse.l0 (k + 1) y0 y1 y2 y3 y4 y5))
  | 0 => fun _ _ _ _ _ _ r h => by simp [vary_Parse.l0] at h
  | k + 1 => by
    have ih0 := vary_Parse.mono_l k
    · intro y0 y1 y2 y3 y4 y5
      unfold vary_Parse.l0
      repeat' first
      | (with_reducible exact ih0 _ _ _ _ _ _)
      | (with_reducible exact head_Name.mono _ _)
      | (with_reducible exact head_Split.mono _ _)
      | (with_reducible exact LeO.refl _)
      | (with_reducible exact LeO.none _)
      | (with_reducible refine LeO.ite ?_ ?_)
      | (with_reducible refine LeO.bind ?_ (fun _ => ?_))
      | exact ih0 _ _ _ _ _ _
      | exact head_Name.mono _ _
      | exact head_Split.mono _ _
      | exact LeO.none _
      | refine LeO.ite ?_ ?_
      | refine LeO.bind ?_ (fun _ => ?_)
theorem vary_Parse.mono : ∀ a0 k, LeO (vary_Parse.f k a0) (vary_Parse.f (k + 1) a0) := by
  intro a0 k
  have ih0 := vary_Parse.mono_l k
  unfold vary_Parse.f
  repeat' first
      | (with_reducible exact ih0 _ _ _ _ _ _)
      | (with_reducible exact head_Name.mono _ _)
      | (with_reducible exact head_Split.mono _ _)
      | (with_reducible exact LeO.refl _)
      | (with_reducible exact LeO.none _)
      | (with_reducible refine LeO.ite ?_ ?_)
      | (with_reducible refine LeO.bind ?_ (fun _ => ?_))
      | exact ih0 _ _ _ _ _ _
      | exact head_Name.mono _ _
      | exact head_Split.mono _ _
      | exact LeO.none _
      | refine LeO.ite ?_ ?_
      | refine LeO.bind ?_ (fun _ => ?_)
def vary_Parse.T8 : Bool × List (List Nat × List Nat) := (true, [([], []), ([0], [0]), ([], []), ([2], [2]), ([3], [3]), ([1, 4, 3], [1, 4]), ([0, 1, 2, 3, 4, 5], []), ([6, 5, 5, 0, 1, 2, 3, 4, 5], [5, 6])])
def vary_Parse.B8 : List Nat := [0, 1, 0, 4, 12, 31, 63, 127]
theorem vary_Parse.tab8 : rtab .any (opsOf Tryd.f19 8) = vary_Parse.T8 := by kernel_rfl
theorem vary_Parse.bits8 : waitsOk vary_Parse.T8.2 vary_Parse.B8 = true := by kernel_rfl
set_option maxHeartbeats 8000000 in
set_option maxRecDepth 100000 in
theorem vary_Parse.calls (k : Nat) (A0 : Option Addr) (c0 : Nat) (l0 : List ByteArray) (r1 : Bool) (r2 : List ByteArray) (w : World) (hr0 : Kd.C Kd.string w A0 l0.length l0) (hc0 : l0.length ≤ c0) (h : vary_Parse.f k l0 = some (r1, r2)) :
    Calls Tryd.prog 19 #[.slice A0 l0.length c0] w fun e w' => ∃ v1_ : Value, e = .returned (.agg #[.bool r1, v1_]) ∧ Kd.R Kd.string 9 w' w.heap.size (fun _ => True) v1_ r2 ∧ Below w.heap.size w w' := by
  have hu50 := Tryd.underlying50
  have HR0 := Aside0.mk hr0
  have HC0 := Aside0.mk hc0
  clear hr0 hc0
  have HB := Aside0.mk (Below.refl w.heap.size w)
  have H : ((head_Split.f k l0).bind fun t140 => (vary_Parse.l0 k t140 t140 (t140.length : Int) 0 false ([] : List ByteArray))) = some (r1, r2) := h
  clear h
  replace H := Option.bind_eq_some_iff.mp H
  obtain ⟨t140, A20, H⟩ := H
  replace H : (vary_Parse.l0 k t140 t140 (t140.length : Int) 0 false ([] : List ByteArray)) = some (r1, r2) := H
  have A2 := Aside0.mk A20
  clear A20
  have H' := Aside0.mk H
  clear H
  go_enter Tryd.func19, Tryd.ntmps19
  go_wp2_with (first | ((with_reducible refine gate_dst (N := 2) rfl ?_); refine box_event ?hg (N := 2) ?hd (cs := #[.bool false, .slice none 0 0]) (t := 50) ?hr ?_; (case hd => rfl); (case hg => rfl); (case hr => first | (go_simp; done) | (go_simp; rfl)); intro gb138 hg w3 hbox hb; have n0_ := Aside0.mk (below_step (by repeat (first | (with_reducible first | exact HB.out | apply below_alloc | apply pw_below_drewN | apply below_drew1) | exact HB.out)) hb); have n1_ := Aside0.mk (hbox); have n2_ := Aside0.mk ((by rw [hg]; exact (below_size (by repeat (first | (with_reducible first | exact HB.out | apply below_alloc | apply pw_below_drewN | apply below_drew1) | exact HB.out))) : w.heap.size ≤ gb138)); have n3_ := Aside0.mk ((by rw [hg]; exact (below_size (by repeat (first | (with_reducible first | exact HB.out | apply below_alloc | apply pw_below_drewN | apply below_drew1) | exact HB.out))) : w.heap.size ≤ gb138)); clear HB; have HB := n0_; have BK138 := n1_; have GW138 := n2_; have GE138 := n3_; clear n0_ n1_ n2_ n3_; clear hb hbox hg) | ((with_reducible refine gate_dst (N := 3) rfl ?_); refine box_event ?hg (N := 3) ?hd (cs := #[.bool false, .slice none 0 0]) (t := 50) ?hr ?_; (case hd => rfl); (case hg => rfl); (case hr => first | (go_simp; done) | (go_simp; rfl)); intro gb139 hg w4 hbox hb; have n0_ := Aside0.mk (blk_below (g := gb138) (o := .cells #[.bool false, .slice none 0 0] 50 (0, 0)) (by (with_reducible repeat (first | refine blk_drewN ?_ _ | refine blk_drew ?_ | refine blk_alloc ?_ _)); exact BK138.out) hb); have n1_ := Aside0.mk (below_step (by repeat (first | (with_reducible first | exact HB.out | apply below_alloc | apply pw_below_drewN | apply below_drew1 | refine below_set ?_ GE138.out) | exact HB.out)) hb); have n2_ := Aside0.mk (hbox); have n3_ := Aside0.mk ((by rw [hg]; exact (below_size (by repeat (first | (with_reducible first | exact HB.out | apply below_alloc | apply pw_below_drewN | apply below_drew1 | refine below_set ?_ GE138.out) | exact HB.out))) : w.heap.size ≤ gb139)); have n4_ := Aside0.mk ((by rw [hg]; exact (below_size (by repeat (first | (with_reducible first | exact HB.out | apply below_alloc | apply pw_below_drewN | apply below_drew1 | refine below_set ?_ GE138.out) | exact HB.out))) : w.heap.size ≤ gb139)); have n5_ := Aside0.mk ((by rw [hg]; exact Nat.ne_of_lt (blk_lt (g := gb138) (o := .cells #[.bool false, .slice none 0 0] 50 (0, 0)) (by (with_reducible repeat (first | refine blk_drewN ?_ _ | refine blk_drew ?_ | refine blk_alloc ?_ _)); exact BK138.out)) : gb138 ≠ gb139)); have n6_ := Aside0.mk ((by rw [hg]; exact Nat.ne_of_gt (blk_lt (g := gb138) (o := .cells #[.bool false, .slice none 0 0] 50 (0, 0)) (by (with_reducible repeat (first | refine blk_drewN ?_ _ | refine blk_drew ?_ | refine blk_alloc ?_ _)); exact BK138.out)) : gb139 ≠ gb138)); clear BK138; clear HB; have BK138 := n0_; have HB := n1_; have BK139 := n2_; have GW139 := n3_; have GE139 := n4_; have NB138_139 := n5_; have NB139_138 := n6_; clear n0_ n1_ n2_ n3_ n4_ n5_ n6_; clear hb hbox hg) | ((with_reducible refine gate_callee (f := 21) rfl ?_); refine goesL_ (some 8) rfl rfl Tryd.func21 (by kernel_rfl) rfl #[.slice A0 l0.length c0] rfl (by (try simp only [List.map_toArray, List.map_cons, List.map_nil]); first | done | rfl | (simp only [List.length_drop, List.length_take]; rfl)) ?_; (with_reducible refine (head_Split.calls k _ _ l0 t140 _ ?side1 ?side2 A2.out).mono ?_); (case side1 => repeat (first | exact (Kd.C_below HR0.out HB.out) | (with_reducible refine Kd.C_alloc ?_ _) | (with_reducible refine Kd.C_drewN ?_ _) | (with_reducible refine Kd.C_drew ?_))); (case side2 => exact HC0.out); rintro e w5 ⟨v141, rfl, ho0, hb⟩; refine ⟨_, rfl, ?_⟩; have n0_ := Aside0.mk (Kd.R_lower ho0 (below_size (by repeat (first | (with_reducible first | exact HB.out | apply below_alloc | apply pw_below_drewN | apply below_drew1 | refine below_set ?_ GE138.out | refine below_set ?_ GE139.out) | exact HB.out)))); have n1_ := Aside0.mk (blk_below (g := gb138) (o := .cells #[.bool false, .slice none 0 0] 50 (0, 0)) (by (with_reducible repeat (first | refine blk_drewN ?_ _ | refine blk_drew ?_ | refine blk_alloc ?_ _)); exact BK138.out) hb); have n2_ := Aside0.mk (blk_below (g := gb139) (o := .cells #[.bool false, .slice none 0 0] 50 (0, 0)) (by (with_reducible repeat (first | refine blk_drewN ?_ _ | refine blk_drew ?_ | refine blk_alloc ?_ _)); exact BK139.out) hb); have n3_ := Aside0.mk (below_step (by repeat (first | (with_reducible first | exact HB.out | apply below_alloc | apply pw_below_drewN | apply below_drew1 | refine below_set ?_ GE138.out | refine below_set ?_ GE139.out) | exact HB.out)) hb); clear BK138; clear BK139; clear HB; have HO142 := n0_; have BK138 := n1_; have BK139 := n2_; have HB := n3_; clear n0_ n1_ n2_ n3_; (try clear hb); (try clear hb2); (try clear hk); (try clear hi); (try clear ho0); obtain ⟨Ao6, co6, eo6⟩ := Kd.R_slice HO142.out; subst eo6))
  go_loopg [11] k (fun kq v11 w' => ∃ (x11_1 : Int) (x139000_1 : Bool) (x140001_1 : List ByteArray) (u140001 : Value), v11 = .int .i64 x11_1 ∧ Aside0 (vary_Parse.l0 kq t140 t140 (t140.length : Int) x11_1 false x140001_1 = some (r1, r2)) ∧ Aside0 (kq ≤ k) ∧ Aside0 (Kd.R Kd.string 9 w' w.heap.size (fun k_ => some k_ ≠ (u140001 : Value).ownBlock) (.slice Ao6 t140.length co6) t140) ∧ Aside0 (Kd.R Kd.string 9 w' w.heap.size (fun k_ => some k_ ≠ (u140001 : Value).ownBlock) (.slice Ao6 t140.length co6) t140) ∧ Aside0 (Kd.R Kd.string 9 w' w.heap.size (fun k_ => some k_ ≠ ((.slice Ao6 t140.length co6) : Value).ownBlock ∧ some k_ ≠ ((.slice Ao6 t140.length co6) : Value).ownBlock) u140001 x140001_1) ∧ Aside0 (w'.heap[gb138]? = some (.cells #[.bool x139000_1, (.slice none 0 0)] 50 (0, 0))) ∧ Aside0 (w'.heap[gb139]? = some (.cells #[.bool false, u140001] 50 (0, 0))) ∧ Aside0 (Below w.heap.size w w'))
  case atStart => exact ⟨(0), (false), (([] : List ByteArray)), (.slice none 0 0), (by first | rfl | (simp; done) | (simp [*]; done)), H', ⟨Nat.le_refl _⟩, ⟨by (with_reducible repeat (first | apply Kd.R_alloc | apply Kd.R_drewN | apply Kd.R_drew)); exact Kd.R_mono HO142.out (fun _ hk => (by simp [Value.ownBlock]))⟩, ⟨by (with_reducible repeat (first | apply Kd.R_alloc | apply Kd.R_drewN | apply Kd.R_drew)); exact Kd.R_mono HO142.out (fun _ hk => (by simp [Value.ownBlock]))⟩, ⟨by first | exact Kd.R_nil _ _ _ _ _ | exact Kd.N_nil _ _ _ _ _ | exact Kd.V_nil _ _ _ _ _ | exact Kd.Q_nil _ _ _ _ _ | exact Kd.S_nil _ _ _ _ _⟩, ⟨by (with_reducible repeat (first | refine blk_drewN ?_ _ | refine blk_drew ?_ | refine blk_alloc ?_ _)); exact BK138.out⟩, ⟨by (with_reducible repeat (first | refine blk_drewN ?_ _ | refine blk_drew ?_ | refine blk_alloc ?_ _)); exact BK139.out⟩, ⟨by repeat (first | (with_reducible first | exact HB.out | apply below_alloc | apply pw_below_drewN | apply below_drew1 | refine below_set ?_ GE138.out | refine below_set ?_ GE139.out) | exact HB.out)⟩⟩
  case round =>
    clear H'
    try clear c1
    try clear c2
    try clear p2
    obtain ⟨x11_1, x139000_1, x140001_1, u140001, rfl, HA, HK1, HO_4, HO_9, HO_140001, BK138, BK139, HB⟩ := hrel
    cases gk with
    | zero => exact absurd HA.out (by simp [vary_Parse.l0])
    | succ k1 =>
      have H := HA.out
      clear HA
      simp only [vary_Parse.l0] at H
      by_cases c7 : x11_1 < (t140.length : Int)
      · rw [if_pos c7] at H
        have c7b0 : decide (x11_1 < (t140.length : Int)) = true := decide_eq_true c7
        clear c7
        by_cases c8 : 0 ≤ x11_1
        · rw [if_pos c8] at H
          have c8b0 : decide (0 ≤ x11_1) = true := decide_eq_true c8
          clear c8
          by_cases c9 : x11_1 < (t140.length : Int)
          · rw [if_pos c9] at H
            have c9b0 : decide (x11_1 < (t140.length : Int)) = true := decide_eq_true c9
            clear c9
            by_cases c10 : (rdOf ByteArray.empty t140 x11_1).toList = ([42] : List UInt8)
            · rw [if_pos c10] at H
              have c10b0 : ((rdOf ByteArray.empty t140 x11_1).toList == ([42] : List UInt8)) = true := beq_iff_eq.mpr c10
              have c10b1 : ((rdOf ByteArray.empty t140 x11_1).toList != ([42] : List UInt8)) = false := bne_eq_false_iff_eq.mpr c10
              clear c10
              simp only [Option.some.injEq, Prod.mk.injEq] at H
              obtain ⟨rfl, rfl⟩ := H
              have p143 : 0 ≤ (x11_1 : Int) := of_decide_eq_true (by first | (with_reducible assumption) | assumption)
              have q143 : x11_1 < (t140.length : Int) := of_decide_eq_true (by first | (with_reducible assumption) | assumption)
              obtain ⟨ad143, e143, hx143_0⟩ := Kd.at_string (Kd.R_reads' HO_9.out).2.2 x11_1 p143 q143
              cases e143
              replace p143 := eq_true p143
              replace q143 := eq_true q143
              have hnb11 := NB138_139.out
              have hnc11 := NB139_138.out
              have hcz12_0 : wr.cell? ⟨gb138, 0, none⟩ = some (.bool x139000_1) := (blk_cell BK138.out 0).trans rfl
              have hcz12_1 : wr.cell? ⟨gb138, 1, none⟩ = some (.slice none 0 0) := (blk_cell BK138.out 1).trans rfl
              have hfz12_0 := blk_frozen BK138.out 0
              have hfz12_1 := blk_frozen BK138.out 1
              go_wp2
              refine bodyPost_ret (results_cell_row rfl _ _ gb138 50 #[.bool true, .slice none 0 0] (0, 0) _ rfl (by (with_reducible repeat (first | refine blk_drewN ?_ _ | refine blk_drew ?_ | refine blk_alloc ?_ _)); refine blk_put (cs := #[.bool true, .slice none 0 0]) ?_ 1 _ rfl; (with_reducible repeat (first | refine blk_drewN ?_ _ | refine blk_drew ?_ | refine blk_alloc ?_ _)); refine blk_put (cs := #[.bool x139000_1, .slice none 0 0]) ?_ 0 _ rfl; (with_reducible repeat (first | refine blk_drewN ?_ _ | refine blk_drew ?_ | refine blk_alloc ?_ _)); exact BK138.out) Tryd.underlying50 rfl (by kernel_rfl)) rfl ?_
              exact ⟨_, by first | rfl | (simp [errW_none, errW_some] <;> rfl) | (simp [*, errW_none, errW_some] <;> rfl), by first | exact Kd.R_nil _ _ _ _ _ | exact Kd.N_nil _ _ _ _ _ | exact Kd.V_nil _ _ _ _ _ | exact Kd.Q_nil _ _ _ _ _ | exact Kd.S_nil _ _ _ _ _, by repeat (first | (with_reducible first | exact HB.out | apply below_alloc | apply pw_below_drewN | apply below_drew1 | refine below_set ?_ GE138.out | refine below_set ?_ GE139.out) | exact HB.out)⟩
            · rw [if_neg c10] at H
              have c10b0 : ((rdOf ByteArray.empty t140 x11_1).toList == ([42] : List UInt8)) = false := beq_eq_false_iff_ne.mpr c10
              have c10b1 : ((rdOf ByteArray.empty t140 x11_1).toList != ([42] : List UInt8)) = true := bne_iff_ne.mpr c10
              replace H := Option.bind_eq_some_iff.mp H
              obtain ⟨t144, A130, H⟩ := H
              replace H : (if t144 = true then ((head_Lower.f (rdOf ByteArray.empty t140 x11_1)).bind fun t145 => (if x140001_1.length < 8796093022208 then (vary_Parse.l0 k1 t140 t140 (t140.length : Int) (wrap64 (x11_1 + 1)) false (x140001_1 ++ [t145])) else (none))) else (some (true, ([] : List ByteArray)))) = some (r1, r2) := H
              have A13 := Aside0.mk A130
              clear A130
              by_cases c14 : t144 = true
              · subst c14
                have H1 : ((head_Lower.f (rdOf ByteArray.empty t140 x11_1)).bind fun t145 => (if x140001_1.length < 8796093022208 then (vary_Parse.l0 k1 t140 t140 (t140.length : Int) (wrap64 (x11_1 + 1)) false (x140001_1 ++ [t145])) else (none))) = some (r1, r2) := by rw [if_pos rfl] at H; exact H
                clear H
                have H := H1
                clear H1
                replace H := Option.bind_eq_some_iff.mp H
                obtain ⟨t145, A150, H⟩ := H
                replace H : (if x140001_1.length < 8796093022208 then (vary_Parse.l0 k1 t140 t140 (t140.length : Int) (wrap64 (x11_1 + 1)) false (x140001_1 ++ [t145])) else (none)) = some (r1, r2) := H
                have A15 := Aside0.mk A150
                clear A150
                by_cases c16 : x140001_1.length < 8796093022208
                · rw [if_pos c16] at H
                  have LMc16 := Aside0.mk c16
                  clear c16
                  obtain ⟨y146, hy146⟩ : ∃ y_ : List ByteArray, y_ = (x140001_1 ++ [t145]) := ⟨_, rfl⟩
                  replace H : (vary_Parse.l0 k1 t140 t140 (t140.length : Int) (wrap64 (x11_1 + 1)) false y146) = some (r1, r2) := by first | (rw [hy146]; with_reducible exact H) | (have H2_ := (Option.bind_some _ _).symm.trans H; rw [hy146]; with_reducible exact H2_) | (have H2_ := (Option.bind_some _ _).symm.trans H; with_reducible exact H2_) | with_reducible exact H | (rw [hy146]; exact H) | exact H
                  have Ny146 := Aside0.mk hy146
                  clear hy146
                  have H' := Aside0.mk H
                  clear H
                  have p143 : 0 ≤ (x11_1 : Int) := of_decide_eq_true (by first | (with_reducible assumption) | assumption)
                  have q143 : x11_1 < (t140.length : Int) := of_decide_eq_true (by first | (with_reducible assumption) | assumption)
                  obtain ⟨ad143, e143, hx143_0⟩ := Kd.at_string (Kd.R_reads' HO_9.out).2.2 x11_1 p143 q143
                  cases e143
                  replace p143 := eq_true p143
                  replace q143 := eq_true q143
                  try go_wp2_with (first | (go_at_call 28; (with_reducible refine (head_Name.calls k1 (rdOf ByteArray.empty t140 x11_1) true _ A13.out).mono ?_); rintro e w' ⟨rfl, ⟨nd, rfl⟩⟩; (try (rw [drewN_self wr]; generalize hq_ : World.drewN wr _ = wr; have n0_ : Aside0 (Kd.R Kd.string 9 wr w.heap.size (fun k_ => some k_ ≠ (.slice (some ad143) t140.length co6 : Value).ownBlock ∧ some k_ ≠ (.slice (some ad143) t140.length co6 : Value).ownBlock) u140001 x140001_1) := ⟨by rw [← hq_]; exact (by (with_reducible repeat (first | apply Kd.R_alloc | apply Kd.R_drewN | apply Kd.R_drew)); exact HO_140001.out)⟩; have n1_ : Aside0 (Kd.R Kd.string 9 wr w.heap.size (fun k_ => some k_ ≠ (u140001 : Value).ownBlock) (.slice (some ad143) t140.length co6) t140) := ⟨by rw [← hq_]; exact (by (with_reducible repeat (first | apply Kd.R_alloc | apply Kd.R_drewN | apply Kd.R_drew)); exact HO_4.out)⟩; have n2_ : Aside0 (Kd.R Kd.string 9 wr w.heap.size (fun k_ => some k_ ≠ (u140001 : Value).ownBlock) (.slice (some ad143) t140.length co6) t140) := ⟨by rw [← hq_]; exact (by (with_reducible repeat (first | apply Kd.R_alloc | apply Kd.R_drewN | apply Kd.R_drew)); exact HO_9.out)⟩; have n3_ : Aside0 (wr.heap[gb138]? = some (.cells #[.bool x139000_1, .slice none 0 0] 50 (0, 0))) := ⟨by rw [← hq_]; exact (by (with_reducible repeat (first | refine blk_drewN ?_ _ | refine blk_drew ?_ | refine blk_alloc ?_ _)); exact BK138.out)⟩; have n4_ : Aside0 (wr.heap[gb139]? = some (.cells #[.bool false, u140001] 50 (0, 0))) := ⟨by rw [← hq_]; exact (by (with_reducible repeat (first | refine blk_drewN ?_ _ | refine blk_drew ?_ | refine blk_alloc ?_ _)); exact BK139.out)⟩; have n5_ : Aside0 (Below w.heap.size w wr) := ⟨by rw [← hq_]; exact (by repeat (first | (with_reducible first | exact HB.out | apply below_alloc | apply pw_below_drewN | apply below_drew1 | refine below_set ?_ GE138.out | refine below_set ?_ GE139.out) | exact HB.out))⟩; clear HO_140001 HO_4 HO_9 BK138 BK139 HB hq_; have HO_140001 := n0_; have HO_4 := n1_; have HO_9 := n2_; have BK138 := n3_; have BK139 := n4_; have HB := n5_; clear n0_ n1_ n2_ n3_ n4_ n5_))))
                  have n0_ := Aside0.mk (Kd.R_drew HO_4.out)
                  have n1_ := Aside0.mk (Kd.R_drew HO_9.out)
                  have n2_ := Aside0.mk (Kd.R_drew HO_140001.out)
                  have n3_ := Aside0.mk (blk_drew BK138.out)
                  have n4_ := Aside0.mk (blk_drew BK139.out)
                  have n5_ := Aside0.mk (below_drew1 HB.out)
                  clear HO_4
                  clear HO_9
                  clear HO_140001
                  clear BK138
                  clear BK139
                  clear HB
                  have HO_4 := n0_
                  have HO_9 := n1_
                  have HO_140001 := n2_
                  have BK138 := n3_
                  have BK139 := n4_
                  have HB := n5_
                  clear n0_ n1_ n2_ n3_ n4_ n5_
                  refine start_ (n := 8) (S := fun w' => w'.cell? ⟨gb139, 0, none⟩ = some (.bool false) ∧ w'.cell? ⟨gb139, 1, none⟩ = some (u140001)) (ds := [7]) #[false, false, false, false, false, false, false, false] (by kernel_rfl) rfl rfl ⟨(blk_cell BK139.out 0).trans rfl, (blk_cell BK139.out 1).trans rfl⟩ (fun hHeld => ?_); refine with_tabW vary_Parse.tab8 vary_Parse.bits8 (fun HT_ HW_ => ?_)
                  generalize wr.drew = w17 at HO_4 HO_9 HO_140001 BK138 BK139 HB hHeld ⊢
                  refine pure_ (i := 0) (N := some 23) (v := ?_) (a' := ?_) #[true, false, false, false, false, false, false, false] rfl rfl (any_of HT_.out (by kernel_rfl)) (fun _ _ _ h => h) (Or.inl ⟨by rfl, ?_⟩) ?_ ?_
                  rotate_left
                  · intro w'
                    go_simp
                    with_reducible rfl
                  rotate_left
                  · simp only [Act.put, List.setIfInBounds_toArray, List.set_cons_zero, List.set_cons_succ, i64_w, i32_w]
                    rfl
                  refine pure_ (i := 2) (N := some 25) (v := ?_) (a' := ?_) #[true, false, true, false, false, false, false, false] rfl rfl (any_of HT_.out (by kernel_rfl)) (fun _ _ _ h => h) (Or.inl ⟨by rfl, ?_⟩) ?_ ?_
                  rotate_left
                  · intro w'
                    go_simp
                    with_reducible rfl
                  rotate_left
                  · simp only [Act.put, List.setIfInBounds_toArray, List.set_cons_zero, List.set_cons_succ, i64_w, i32_w]
                    rfl
                  refine take_ (i := 1) (N := some 24) (v := ?_) (a' := ?_) #[true, true, true, false, false, false, false, false] rfl rfl (take_ofW HT_.out HW_.out (by kernel_rfl)) (fun _ _ _ h => h) (Or.inl ⟨by rfl, ?_⟩) hHeld ?_ ?_
                  rotate_left
                  · rintro w' ⟨s0, s1⟩
                    go_simp
                    with_reducible rfl
                  rotate_left
                  · simp only [Act.put, List.setIfInBounds_toArray, List.set_cons_zero, List.set_cons_succ, i64_w, i32_w]
                    rfl
                  refine one_ (i := 3) (N := some 26) #[true, true, true, true, false, false, false, false] rfl rfl (one_of HT_.out (by kernel_rfl)) (by decide) (fun K hK => ?_)
                  refine goes_ Tryd.func24 (by kernel_rfl) rfl #[.string (rdOf ByteArray.empty t140 x11_1)] (by rfl) rfl rfl (by (try simp only [List.map_toArray, List.map_cons, List.map_nil]); first | done | rfl | (simp only [List.length_drop, List.length_take]; rfl)) ?_
                  with_reducible refine (head_Lower.calls (rdOf ByteArray.empty t140 x11_1) t145 _ A15.out).mono ?_
                  rintro e w18 ⟨rfl, hb⟩
                  refine ⟨_, rfl, ?_⟩
                  have n0_ := Aside0.mk (Kd.R_below (by (with_reducible repeat (first | apply Kd.R_alloc | apply Kd.R_drewN | apply Kd.R_drew)); exact HO_4.out) hb)
                  have n1_ := Aside0.mk (Kd.R_below (by (with_reducible repeat (first | apply Kd.R_alloc | apply Kd.R_drewN | apply Kd.R_drew)); exact HO_9.out) hb)
                  have n2_ := Aside0.mk (Kd.R_below (by (with_reducible repeat (first | apply Kd.R_alloc | apply Kd.R_drewN | apply Kd.R_drew)); exact HO_140001.out) hb)
                  have n3_ := Aside0.mk (blk_below (g := gb138) (o := .cells #[.bool x139000_1, .slice none 0 0] 50 (0, 0)) (by (with_reducible repeat (first | refine blk_drewN ?_ _ | refine blk_drew ?_ | refine blk_alloc ?_ _)); exact BK138.out) hb)
                  have n4_ := Aside0.mk (blk_below (g := gb139) (o := .cells #[.bool false, u140001] 50 (0, 0)) (by (with_reducible repeat (first | refine blk_drewN ?_ _ | refine blk_drew ?_ | refine blk_alloc ?_ _)); exact BK139.out) hb)
                  have n5_ := Aside0.mk (below_step (by repeat (first | (with_reducible first | exact HB.out | apply below_alloc | apply pw_below_drewN | apply below_drew1 | refine below_set ?_ GE138.out | refine below_set ?_ GE139.out) | exact HB.out)) hb)
                  clear HO_4
                  clear HO_9
                  clear HO_140001
                  clear BK138
                  clear BK139
                  clear HB
                  have HO_4 := n0_
                  have HO_9 := n1_
                  have HO_140001 := n2_
                  have BK138 := n3_
                  have BK139 := n4_
                  have HB := n5_
                  clear n0_ n1_ n2_ n3_ n4_ n5_
                  (try clear hb)
                  (try clear hb2)
                  (try clear hk)
                  (try clear hi)
                  refine hK.out _ _ ⟨(blk_cell BK139.out 0).trans rfl, (blk_cell BK139.out 1).trans rfl⟩ (fun hHeld => ?_)
                  clear hK K
                  refine norm_ (a' := ?_) ?_ ?_
                  rotate_left
                  · show Act.put _ (some 26) _ = _
                    simp only [Act.put, List.setIfInBounds_toArray, List.set_cons_zero, List.set_cons_succ, i64_w, i32_w]
                    rfl
                  refine one_ (i := 4) (N := some 27) #[true, true, true, true, true, false, false, false] rfl rfl (one_of HT_.out (by kernel_rfl)) (by decide) (fun K hK => ?_)
                  refine value_ (w1 := ?_) (v := ?_) (by rfl) rfl ?_ ?_
                  rotate_left 2
                  · go_simp
                    constructor
                    · rfl
                    · rfl
                  refine hK.out _ _ ⟨(blk_cell (blk_alloc BK139.out _) 0).trans rfl, (blk_cell (blk_alloc BK139.out _) 1).trans rfl⟩ (fun hHeld => ?_)
                  clear hK K
                  refine norm_ (a' := ?_) ?_ ?_
                  rotate_left
                  · show Act.put _ (some 27) _ = _
                    simp only [Act.put, List.setIfInBounds_toArray, List.set_cons_zero, List.set_cons_succ, i64_w, i32_w]
                    rfl
                  refine one_ (i := 5) (N := some 28) #[true, true, true, true, true, true, false, false] rfl rfl (one_of HT_.out (by kernel_rfl)) (by decide) (fun K hK => ?_)
                  refine Kd.R_append_step Kd.string (w0 := w) w.heap.size (by rfl) (.tmp 24) (.tmp 27) 37 9 (.string ⟨#[]⟩) 16 rfl Tryd.underlying37 info9 rfl (by decide) (by omega) u140001 x140001_1 t145 [.string t145] (fun k_ => some k_ ≠ (.slice (some ad143) t140.length co6 : Value).ownBlock ∧ some k_ ≠ (.slice (some ad143) t140.length co6 : Value).ownBlock) (fun _ => False) rfl rfl ?aP (fun _ hk => hk.elim) ?aF ?aO ?aB ?aS ?aL ?_
                  (case aP => exact rfl)
                  (case aB => exact (by repeat (first | (with_reducible first | exact HB.out | apply below_alloc | apply pw_below_drewN | apply below_drew1 | refine below_set ?_ GE138.out | refine below_set ?_ GE139.out) | exact HB.out)))
                  (case aF => exact (fun k_ hk => ⟨Kd.fresh' (Kd.R_lt (by (with_reducible repeat (first | apply Kd.R_alloc | apply Kd.R_drewN | apply Kd.R_drew)); exact HO_4.out)) k_ hk, Kd.fresh' (Kd.R_lt (by (with_reducible repeat (first | apply Kd.R_alloc | apply Kd.R_drewN | apply Kd.R_drew)); exact HO_9.out)) k_ hk⟩))
                  (case aO => exact (by (with_reducible repeat (first | apply Kd.R_alloc | apply Kd.R_drewN | apply Kd.R_drew)); exact HO_140001.out))
                  (case aS => exact (below_size (by repeat (first | (with_reducible first | exact HB.out | apply below_alloc | apply pw_below_drewN | apply below_drew1 | refine below_set ?_ GE138.out | refine below_set ?_ GE139.out) | exact HB.out))))
                  (case aL => have := LMc16.out; omega)
                  intro v147 w19 ho hb hg hat
                  rw [← Ny146.out] at ho
                  have n0_ := Aside0.mk (Kd.R_after (ok := (fun _ => True)) (by (with_reducible repeat (first | apply Kd.R_alloc | apply Kd.R_drewN | apply Kd.R_drew)); exact Kd.R_mono HO_4.out (fun _ hk => ⟨trivial, hk⟩)) hg hat)
                  have n1_ := Aside0.mk (Kd.R_after (ok := (fun _ => True)) (by (with_reducible repeat (first | apply Kd.R_alloc | apply Kd.R_drewN | apply Kd.R_drew)); exact Kd.R_mono HO_9.out (fun _ hk => ⟨trivial, hk⟩)) hg hat)
                  have n2_ := Aside0.mk (blk_grown (g := gb138) (o := .cells #[.bool x139000_1, .slice none 0 0] 50 (0, 0)) (by (with_reducible repeat (first | refine blk_drewN ?_ _ | refine blk_drew ?_ | refine blk_alloc ?_ _)); exact BK138.out) hg (Kd.R_ne HO_140001.out BK138.out (by decide)))
                  have n3_ := Aside0.mk (blk_grown (g := gb139) (o := .cells #[.bool false, u140001] 50 (0, 0)) (by (with_reducible repeat (first | refine blk_drewN ?_ _ | refine blk_drew ?_ | refine blk_alloc ?_ _)); exact BK139.out) hg (Kd.R_ne HO_140001.out BK139.out (by decide)))
                  have n4_ := Aside0.mk (hb)
                  have n5_ := Aside0.mk (ho)
                  clear HO_4
                  clear HO_9
                  clear BK138
                  clear BK139
                  clear HB
                  clear HO_140001
                  have HO_4 := n0_
                  have HO_9 := n1_
                  have BK138 := n2_
                  have BK139 := n3_
                  have HB := n4_
                  have HO148 := n5_
                  clear n0_ n1_ n2_ n3_ n4_ n5_
                  clear ho hb hg hat
                  obtain ⟨Ao20, co20, eo20⟩ := Kd.R_slice HO148.out
                  (first | subst eo20 | (injection eo20 with f1_ f2_ f3_; have f4_ := f1_.symm; have f5_ := f3_.symm; clear f1_ f2_ f3_; subst f4_; subst f5_))
                  refine hK.out _ _ ⟨(blk_cell BK139.out 0).trans rfl, (blk_cell BK139.out 1).trans rfl⟩ (fun hHeld => ?_)
                  clear hK K
                  refine norm_ (a' := ?_) ?_ ?_
                  rotate_left
                  · show Act.put _ (some 28) _ = _
                    simp only [Act.put, List.setIfInBounds_toArray, List.set_cons_zero, List.set_cons_succ, i64_w, i32_w]
                    rfl
                  refine pure_ (i := 6) (N := some 29) (v := ?_) (a' := ?_) #[true, true, true, true, true, true, true, false] rfl rfl (any_of HT_.out (by kernel_rfl)) (fun _ _ _ h => h) (Or.inl ⟨by rfl, ?_⟩) ?_ ?_
                  rotate_left
                  · intro w'
                    go_simp
                    with_reducible rfl
                  rotate_left
                  · simp only [Act.put, List.setIfInBounds_toArray, List.set_cons_zero, List.set_cons_succ, i64_w, i32_w]
                    rfl
                  refine last_ (i := 7) (N := none) #[true, true, true, true, true, true, true, true] rfl rfl (one_of HT_.out (by kernel_rfl)) (by decide) (fun K hK => ?_)
                  have hs21 : w19.cell? ⟨gb139, 1, none⟩ = some (u140001) := (blk_cell BK139.out 1).trans rfl
                  have hfs21 := blk_frozen BK139.out 1
                  have hns21_0 := NB138_139.out
                  have hms21_0 := NB139_138.out
                  refine skip_ (w1 := ?_) (by rfl) rfl ?_ ?_
                  rotate_left
                  · go_simp
                    rfl
                  refine hK.out _ _ ?_
                  clear hK K
                  refine done_ (done_of HT_.out (by kernel_rfl)) ?_
                  try go_wp2
                  go_roundg k1
                  case measure => have := HK1.out; omega
                  case rel => exact ⟨(wrap64 (x11_1 + 1)), (x139000_1), (y146), (.slice Ao20 y146.length co20), (by first | rfl | (simp; done) | (simp [*]; done)), H', ⟨by have := HK1.out; omega⟩, ⟨by (with_reducible repeat (first | apply Kd.R_alloc | apply Kd.R_drewN | apply Kd.R_drew)); exact Kd.R_mono (Kd.R_far (p := ⟨gb139, 1, none⟩) (Kd.R_types HO_4.out BK139.out (by decide)) (fun _ hk => hk.2) (.slice Ao20 y146.length co20)) (fun _ hk => hk.1.2)⟩, ⟨by (with_reducible repeat (first | apply Kd.R_alloc | apply Kd.R_drewN | apply Kd.R_drew)); exact Kd.R_mono (Kd.R_far (p := ⟨gb139, 1, none⟩) (Kd.R_types HO_9.out BK139.out (by decide)) (fun _ hk => hk.2) (.slice Ao20 y146.length co20)) (fun _ hk => hk.1.2)⟩, ⟨by (with_reducible repeat (first | apply Kd.R_alloc | apply Kd.R_drewN | apply Kd.R_drew)); exact Kd.R_mono (Kd.R_far (p := ⟨gb139, 1, none⟩) (Kd.R_types HO148.out BK139.out (by decide)) (fun _ hk => hk.2) (.slice Ao20 y146.length co20)) (fun _ hk => ⟨hk.1.1, hk.1.2⟩)⟩, ⟨by (with_reducible repeat (first | refine blk_drewN ?_ _ | refine blk_drew ?_ | refine blk_alloc ?_ _)); refine blk_far ?_ NB138_139.out _; (with_reducible repeat (first | refine blk_drewN ?_ _ | refine blk_drew ?_ | refine blk_alloc ?_ _)); exact BK138.out⟩, ⟨by (with_reducible repeat (first | refine blk_drewN ?_ _ | refine blk_drew ?_ | refine blk_alloc ?_ _)); refine blk_put (cs := #[.bool false, u140001]) ?_ 1 _ rfl; (with_reducible repeat (first | refine blk_drewN ?_ _ | refine blk_drew ?_ | refine blk_alloc ?_ _)); exact BK139.out⟩, ⟨by repeat (first | (with_reducible first | exact HB.out | apply below_alloc | apply pw_below_drewN | apply below_drew1 | refine below_set ?_ GE138.out | refine below_set ?_ GE139.out) | exact HB.out)⟩⟩
                · rw [if_neg c16] at H
                  exact absurd H (by simp)
              · replace c14 := Bool.eq_false_iff.mpr c14
                subst c14
                have H1 : (some (true, ([] : List ByteArray))) = some (r1, r2) := by rw [if_neg (show ¬ (false = true) by decide)] at H; exact H
                clear H
                have H := H1
                clear H1
                simp only [Option.some.injEq, Prod.mk.injEq] at H
                obtain ⟨rfl, rfl⟩ := H
                have p143 : 0 ≤ (x11_1 : Int) := of_decide_eq_true (by first | (with_reducible assumption) | assumption)
                have q143 : x11_1 < (t140.length : Int) := of_decide_eq_true (by first | (with_reducible assumption) | assumption)
                obtain ⟨ad143, e143, hx143_0⟩ := Kd.at_string (Kd.R_reads' HO_9.out).2.2 x11_1 p143 q143
                cases e143
                replace p143 := eq_true p143
                replace q143 := eq_true q143
                go_wp2_with (first | (go_at_call 28; (with_reducible refine (head_Name.calls k1 (rdOf ByteArray.empty t140 x11_1) false _ A13.out).mono ?_); rintro e w' ⟨rfl, ⟨nd, rfl⟩⟩; (try (rw [drewN_self wr]; generalize hq_ : World.drewN wr _ = wr; have n0_ : Aside0 (Kd.R Kd.string 9 wr w.heap.size (fun k_ => some k_ ≠ (.slice (some ad143) t140.length co6 : Value).ownBlock ∧ some k_ ≠ (.slice (some ad143) t140.length co6 : Value).ownBlock) u140001 x140001_1) := ⟨by rw [← hq_]; exact (by (with_reducible repeat (first | apply Kd.R_alloc | apply Kd.R_drewN | apply Kd.R_drew)); exact HO_140001.out)⟩; have n1_ : Aside0 (Kd.R Kd.string 9 wr w.heap.size (fun k_ => some k_ ≠ (u140001 : Value).ownBlock) (.slice (some ad143) t140.length co6) t140) := ⟨by rw [← hq_]; exact (by (with_reducible repeat (first | apply Kd.R_alloc | apply Kd.R_drewN | apply Kd.R_drew)); exact HO_4.out)⟩; have n2_ : Aside0 (Kd.R Kd.string 9 wr w.heap.size (fun k_ => some k_ ≠ (u140001 : Value).ownBlock) (.slice (some ad143) t140.length co6) t140) := ⟨by rw [← hq_]; exact (by (with_reducible repeat (first | apply Kd.R_alloc | apply Kd.R_drewN | apply Kd.R_drew)); exact HO_9.out)⟩; have n3_ : Aside0 (wr.heap[gb138]? = some (.cells #[.bool x139000_1, .slice none 0 0] 50 (0, 0))) := ⟨by rw [← hq_]; exact (by (with_reducible repeat (first | refine blk_drewN ?_ _ | refine blk_drew ?_ | refine blk_alloc ?_ _)); exact BK138.out)⟩; have n4_ : Aside0 (wr.heap[gb139]? = some (.cells #[.bool false, u140001] 50 (0, 0))) := ⟨by rw [← hq_]; exact (by (with_reducible repeat (first | refine blk_drewN ?_ _ | refine blk_drew ?_ | refine blk_alloc ?_ _)); exact BK139.out)⟩; have n5_ : Aside0 (Below w.heap.size w wr) := ⟨by rw [← hq_]; exact (by repeat (first | (with_reducible first | exact HB.out | apply below_alloc | apply pw_below_drewN | apply below_drew1 | refine below_set ?_ GE138.out | refine below_set ?_ GE139.out) | exact HB.out))⟩; clear HO_140001 HO_4 HO_9 BK138 BK139 HB hq_; have HO_140001 := n0_; have HO_4 := n1_; have HO_9 := n2_; have BK138 := n3_; have BK139 := n4_; have HB := n5_; clear n0_ n1_ n2_ n3_ n4_ n5_)); have hnb22 := NB138_139.out; have hnc22 := NB139_138.out; have hcz23_0 : wr.cell? ⟨gb138, 0, none⟩ = some (.bool x139000_1) := (blk_cell BK138.out 0).trans rfl; have hcz23_1 : wr.cell? ⟨gb138, 1, none⟩ = some (.slice none 0 0) := (blk_cell BK138.out 1).trans rfl; have hfz23_0 := blk_frozen BK138.out 0; have hfz23_1 := blk_frozen BK138.out 1))
                refine bodyPost_ret (results_cell_row rfl _ _ gb138 50 #[.bool true, .slice none 0 0] (0, 0) _ rfl (by (with_reducible repeat (first | refine blk_drewN ?_ _ | refine blk_drew ?_ | refine blk_alloc ?_ _)); refine blk_put (cs := #[.bool true, .slice none 0 0]) ?_ 1 _ rfl; (with_reducible repeat (first | refine blk_drewN ?_ _ | refine blk_drew ?_ | refine blk_alloc ?_ _)); refine blk_put (cs := #[.bool x139000_1, .slice none 0 0]) ?_ 0 _ rfl; (with_reducible repeat (first | refine blk_drewN ?_ _ | refine blk_drew ?_ | refine blk_alloc ?_ _)); exact BK138.out) Tryd.underlying50 rfl (by kernel_rfl)) rfl ?_
                exact ⟨_, by first | rfl | (simp [errW_none, errW_some] <;> rfl) | (simp [*, errW_none, errW_some] <;> rfl), by first | exact Kd.R_nil _ _ _ _ _ | exact Kd.N_nil _ _ _ _ _ | exact Kd.V_nil _ _ _ _ _ | exact Kd.Q_nil _ _ _ _ _ | exact Kd.S_nil _ _ _ _ _, by repeat (first | (with_reducible first | exact HB.out | apply below_alloc | apply pw_below_drewN | apply below_drew1 | refine below_set ?_ GE138.out | refine below_set ?_ GE139.out) | exact HB.out)⟩
          · rw [if_neg c9] at H
            exact absurd H (by simp)
        · rw [if_neg c8] at H
          exact absurd H (by simp)
      · rw [if_neg c7] at H
        have c7b0 : decide (x11_1 < (t140.length : Int)) = false := decide_eq_false c7
        clear c7
        by_cases c24 : (t140.length : Int) > 64
        · rw [if_pos c24] at H
          have c24b0 : decide (64 < (t140.length : Int)) = true := decide_eq_true c24
          have c24b1 : decide (64 < t140.length) = true := decide_eq_true (by omega)
          clear c24
          simp only [Option.some.injEq, Prod.mk.injEq] at H
          obtain ⟨rfl, rfl⟩ := H
          have hnb25 := NB138_139.out
          have hnc25 := NB139_138.out
          have hcz26_0 : wr.cell? ⟨gb138, 0, none⟩ = some (.bool x139000_1) := (blk_cell BK138.out 0).trans rfl
          have hcz26_1 : wr.cell? ⟨gb138, 1, none⟩ = some (.slice none 0 0) := (blk_cell BK138.out 1).trans rfl
          have hfz26_0 := blk_frozen BK138.out 0
          have hfz26_1 := blk_frozen BK138.out 1
          go_wp2
          refine bodyPost_ret (results_cell_row rfl _ _ gb138 50 #[.bool true, .slice none 0 0] (0, 0) _ rfl (by (with_reducible repeat (first | refine blk_drewN ?_ _ | refine blk_drew ?_ | refine blk_alloc ?_ _)); refine blk_put (cs := #[.bool true, .slice none 0 0]) ?_ 1 _ rfl; (with_reducible repeat (first | refine blk_drewN ?_ _ | refine blk_drew ?_ | refine blk_alloc ?_ _)); refine blk_put (cs := #[.bool x139000_1, .slice none 0 0]) ?_ 0 _ rfl; (with_reducible repeat (first | refine blk_drewN ?_ _ | refine blk_drew ?_ | refine blk_alloc ?_ _)); exact BK138.out) Tryd.underlying50 rfl (by kernel_rfl)) rfl ?_
          exact ⟨_, by first | rfl | (simp [errW_none, errW_some] <;> rfl) | (simp [*, errW_none, errW_some] <;> rfl), by first | exact Kd.R_nil _ _ _ _ _ | exact Kd.N_nil _ _ _ _ _ | exact Kd.V_nil _ _ _ _ _ | exact Kd.Q_nil _ _ _ _ _ | exact Kd.S_nil _ _ _ _ _, by repeat (first | (with_reducible first | exact HB.out | apply below_alloc | apply pw_below_drewN | apply below_drew1 | refine below_set ?_ GE138.out | refine below_set ?_ GE139.out) | exact HB.out)⟩
        · rw [if_neg c24] at H
          have c24b0 : decide (64 < (t140.length : Int)) = false := decide_eq_false c24
          have c24b1 : decide (64 < t140.length) = false := decide_eq_false (by omega)
          clear c24
          replace H := Option.bind_eq_some_iff.mp H
          obtain ⟨_, A270, H⟩ := H
          replace H : ((slices_CompactS.f x140001_1).bind fun t149 => (some (false, t149))) = some (r1, r2) := H
          have A27 := Aside0.mk A270
          clear A270
          replace H := Option.bind_eq_some_iff.mp H
          obtain ⟨t149, A280, H⟩ := H
          replace H : (some (false, t149)) = some (r1, r2) := H
          have A28 := Aside0.mk A280
          clear A280
          simp only [Option.some.injEq, Prod.mk.injEq] at H
          obtain ⟨rfl, rfl⟩ := H
          have hnb29 := NB139_138.out
          have hnc29 := NB138_139.out
          have hcz30_0 : wr.cell? ⟨gb139, 0, none⟩ = some (.bool false) := (blk_cell BK139.out 0).trans rfl
          have hcz30_1 : wr.cell? ⟨gb139, 1, none⟩ = some (u140001) := (blk_cell BK139.out 1).trans rfl
          have hfz30_0 := blk_frozen BK139.out 0
          have hfz30_1 := blk_frozen BK139.out 1
          obtain ⟨Ao31, co31, eo31⟩ := Kd.R_slice HO_140001.out
          subst eo31
          go_wp2_with (first | ((with_reducible refine gate_callee (f := 30) rfl ?_); refine goesL_ (some 37) rfl rfl Tryd.func30 (by kernel_rfl) rfl #[.slice Ao31 x140001_1.length co31] rfl (by (try simp only [List.map_toArray, List.map_cons, List.map_nil]); first | done | rfl | (simp only [List.length_drop, List.length_take]; rfl)) ?_; (with_reducible refine (slices_SortS.calls _ _ x140001_1 _ _ w.heap.size _ A27.out (by (with_reducible repeat (first | apply Kd.R_alloc | apply Kd.R_drewN | apply Kd.R_drew)); exact HO_140001.out)).mono ?_); rintro e w32 ⟨rfl, ho0, hg⟩; refine ⟨_, rfl, ?_⟩; have n0_ := Aside0.mk True.intro; have n1_ := Aside0.mk True.intro; have n2_ := Aside0.mk ho0; have n3_ := Aside0.mk (blk_grown (g := gb138) (o := .cells #[.bool x139000_1, .slice none 0 0] 50 (0, 0)) (by (with_reducible repeat (first | refine blk_drewN ?_ _ | refine blk_drew ?_ | refine blk_alloc ?_ _)); exact BK138.out) hg (Kd.R_ne HO_140001.out BK138.out (by decide))); have n4_ := Aside0.mk (blk_grown (g := gb139) (o := .cells #[.bool false, .slice Ao31 x140001_1.length co31] 50 (0, 0)) (by (with_reducible repeat (first | refine blk_drewN ?_ _ | refine blk_drew ?_ | refine blk_alloc ?_ _)); exact BK139.out) hg (Kd.R_ne HO_140001.out BK139.out (by decide))); have n5_ := Aside0.mk (pw_below_grown (by repeat (first | (with_reducible first | exact HB.out | apply below_alloc | apply pw_below_drewN | apply below_drew1 | refine below_set ?_ GE138.out | refine below_set ?_ GE139.out) | exact HB.out)) _ (below_size (by repeat (first | (with_reducible first | exact HB.out | apply below_alloc | apply pw_below_drewN | apply below_drew1 | refine below_set ?_ GE138.out | refine below_set ?_ GE139.out) | exact HB.out))) hg (Kd.R_base HO_140001.out)); clear HO_4; clear HO_9; clear HO_140001; clear BK138; clear BK139; clear HB; have HO_4 := n0_; have HO_9 := n1_; have HO_140001 := n2_; have BK138 := n3_; have BK139 := n4_; have HB := n5_; clear n0_ n1_ n2_ n3_ n4_ n5_; (try clear hg); (try clear ho0); (try clear hb2); (try clear hk); (try clear hi); have hcz33_0 : w32.cell? ⟨gb139, 0, none⟩ = some (.bool false) := (blk_cell BK139.out 0).trans rfl; have hcz33_1 : w32.cell? ⟨gb139, 1, none⟩ = some (.slice Ao31 x140001_1.length co31) := (blk_cell BK139.out 1).trans rfl; have hfz33_0 := blk_frozen BK139.out 0; have hfz33_1 := blk_frozen BK139.out 1) | ((with_reducible refine gate_callee (f := 31) rfl ?_); refine goesL_ (some 40) rfl rfl Tryd.func31 (by kernel_rfl) rfl #[.slice Ao31 x140001_1.length co31] rfl (by (try simp only [List.map_toArray, List.map_cons, List.map_nil]); first | done | rfl | (simp only [List.length_drop, List.length_take]; rfl)) ?_; (with_reducible refine (slices_CompactS.calls _ _ x140001_1 _ _ w.heap.size _ A28.out (by (with_reducible repeat (first | apply Kd.R_alloc | apply Kd.R_drewN | apply Kd.R_drew)); exact HO_140001.out)).mono ?_); rintro e w34 ⟨v150, rfl, ho0, hg⟩; refine ⟨_, rfl, ?_⟩; have n0_ := Aside0.mk True.intro; have n1_ := Aside0.mk True.intro; have n2_ := Aside0.mk True.intro; have n3_ := Aside0.mk ho0; have n4_ := Aside0.mk (blk_grown (g := gb138) (o := .cells #[.bool x139000_1, .slice none 0 0] 50 (0, 0)) (by (with_reducible repeat (first | refine blk_drewN ?_ _ | refine blk_drew ?_ | refine blk_alloc ?_ _)); exact BK138.out) hg (Kd.R_ne HO_140001.out BK138.out (by decide))); have n5_ := Aside0.mk (blk_grown (g := gb139) (o := .cells #[.bool false, .slice Ao31 x140001_1.length co31] 50 (0, 0)) (by (with_reducible repeat (first | refine blk_drewN ?_ _ | refine blk_drew ?_ | refine blk_alloc ?_ _)); exact BK139.out) hg (Kd.R_ne HO_140001.out BK139.out (by decide))); have n6_ := Aside0.mk (pw_below_grown (by repeat (first | (with_reducible first | exact HB.out | apply below_alloc | apply pw_below_drewN | apply below_drew1 | refine below_set ?_ GE138.out | refine below_set ?_ GE139.out) | exact HB.out)) _ (below_size (by repeat (first | (with_reducible first | exact HB.out | apply below_alloc | apply pw_below_drewN | apply below_drew1 | refine below_set ?_ GE138.out | refine below_set ?_ GE139.out) | exact HB.out))) hg (Kd.R_base HO_140001.out)); clear HO_4; clear HO_9; clear HO_140001; clear BK138; clear BK139; clear HB; have HO_4 := n0_; have HO_9 := n1_; have HO_140001 := n2_; have HO151 := n3_; have BK138 := n4_; have BK139 := n5_; have HB := n6_; clear n0_ n1_ n2_ n3_ n4_ n5_ n6_; (try clear hg); (try clear ho0); (try clear hb2); (try clear hk); (try clear hi); (try clear ho0); obtain ⟨Ao35, co35, eo35⟩ := Kd.R_slice HO151.out; subst eo35; have hcz36_0 : w34.cell? ⟨gb139, 0, none⟩ = some (.bool false) := (blk_cell BK139.out 0).trans rfl; have hcz36_1 : w34.cell? ⟨gb139, 1, none⟩ = some (.slice Ao31 x140001_1.length co31) := (blk_cell BK139.out 1).trans rfl; have hfz36_0 := blk_frozen BK139.out 0; have hfz36_1 := blk_frozen BK139.out 1; have hcz37_0 : w34.cell? ⟨gb138, 0, none⟩ = some (.bool x139000_1) := (blk_cell BK138.out 0).trans rfl; have hcz37_1 : w34.cell? ⟨gb138, 1, none⟩ = some (.slice none 0 0) := (blk_cell BK138.out 1).trans rfl; have hfz37_0 := blk_frozen BK138.out 0; have hfz37_1 := blk_frozen BK138.out 1))
          refine bodyPost_ret (results_cell_row rfl _ _ gb138 50 #[.bool false, .slice Ao35 t149.length co35] (0, 0) _ rfl (by (with_reducible repeat (first | refine blk_drewN ?_ _ | refine blk_drew ?_ | refine blk_alloc ?_ _)); refine blk_put (cs := #[.bool false, .slice none 0 0]) ?_ 1 _ rfl; (with_reducible repeat (first | refine blk_drewN ?_ _ | refine blk_drew ?_ | refine blk_alloc ?_ _)); refine blk_put (cs := #[.bool x139000_1, .slice none 0 0]) ?_ 0 _ rfl; (with_reducible repeat (first | refine blk_drewN ?_ _ | refine blk_drew ?_ | refine blk_alloc ?_ _)); refine blk_far ?_ NB138_139.out _; (with_reducible repeat (first | refine blk_drewN ?_ _ | refine blk_drew ?_ | refine blk_alloc ?_ _)); exact BK138.out) Tryd.underlying50 rfl (by kernel_rfl)) rfl ?_
          exact ⟨_, by first | rfl | (simp [errW_none, errW_some] <;> rfl) | (simp [*, errW_none, errW_some] <;> rfl), by (with_reducible repeat (first | apply Kd.R_alloc | apply Kd.R_drewN | apply Kd.R_drew)); exact Kd.R_mono (Kd.R_far (p := ⟨gb138, 1, none⟩) (Kd.R_far (p := ⟨gb138, 0, none⟩) (Kd.R_far (p := ⟨gb139, 1, none⟩) (Kd.R_types (Kd.R_types HO151.out BK139.out (by decide)) BK138.out (by decide)) (fun _ hk => hk.1.2) (.slice Ao35 t149.length co35)) (fun _ hk => hk.2) (.bool false)) (fun _ hk => hk.2) (.slice Ao35 t149.length co35)) (fun _ hk => trivial), by repeat (first | (with_reducible first | exact HB.out | apply below_alloc | apply pw_below_drewN | apply below_drew1 | refine below_set ?_ GE138.out | refine below_set ?_ GE139.out) | exact HB.out)⟩

/-! ### age_control: function 32 -/
def age_control.R (k : Nat) (l : List S42) : Option Own.Ctl := (head_All.f k l (⟨#[67, 97, 99, 104, 101, 45, 67, 111, 110, 116, 114, 111, 108]⟩ : ByteArray)).bind fun v => ccR k v
theorem age_control.monoR (k : Nat) (l : List S42) : LeO (age_control.R k l) (age_control.R (k + 1) l) := LeO.bind (head_All.mono _ _ k) fun _ => ccR_mono k _
theorem age_control.below {B g : Nat} {w0 w : World} (hb : Below B w0 w) (hg : B ≤ g) (cs : Array Value) : Below B w0 (w.setRow g cs) :=
  ⟨hb.os, hb.tape, hb.output, by rw [setRow_size]; exact hb.size, fun k hk => (setRow_other w g k cs (by omega)).trans (hb.block k hk)⟩
set_option maxHeartbeats 1000000 in
set_option maxRecDepth 100000 in
theorem age_control.own (k : Nat) (A : Option Addr) (c0 : Nat) (l : List S42) (c : Own.Ctl) (w : World) (hr0 : Kd.C k42 w A l.length l) (hc0 : l.length ≤ c0) (h : age_control.R k l = some c) :
    Calls Tryd.prog 32 #[.slice A l.length c0] w fun e w' => e = .returned (.agg c.cells) ∧ Below w.heap.size w w' := by
  unfold age_control.R at h
  obtain ⟨v, h1, h2⟩ := Option.bind_eq_some_iff.1 h
  have hu35 := Tryd.underlying35
  have HR0 := Aside0.mk hr0
  have HC0 := Aside0.mk hc0
  have H1 := Aside0.mk h1
  have H2 := Aside0.mk h2
  obtain ⟨wa, hwa⟩ : ∃ wa, wa = w.alloc (.cells #[.bool false, .bool false, .bool false, .bool false, .bool false, .bool false, .bool false, .bool false, .bool false, .bool false, .bool false, .bool false, .int .i64 0, .bool false, .int .i64 0, .bool false, .int .i64 0, .bool false, .int .i64 0, .bool false, .int .i64 0] 35) := ⟨_, rfl⟩
  have HB : Aside0 (Below w.heap.size w wa) := ⟨by rw [hwa]; exact (Below.refl _ w).alloc (Nat.le_refl _) _⟩
  have HZ : Aside0 (wa.heap[w.heap.size]? = some (.cells Own.Ctl.zero.cells 35 (0, 0))) := ⟨by rw [hwa]; exact blk_new w _⟩
  have HSZ : Aside0 (some 21 = some c.cells.size) := ⟨rfl⟩
  clear hr0 hc0 h h1 h2
  go_enter Tryd.func32, Tryd.ntmps32
  go_wp2_with (first | (go_at_call 11; rw [← hwa]; (with_reducible refine (head_All.calls k A c0 l _ v _ (Kd.C_below HR0.out HB.out) HC0.out H1.out).mono ?_); rintro e w1 ⟨v1, rfl, hR, hb⟩; obtain ⟨A1, c1, rfl, hc1, hC1⟩ := Kd.R_reads hR; have n0_ := Aside0.mk (HB.out.trans (hb.mono HB.out.size)); have n1_ := Aside0.mk (blk_below HZ.out hb); have HC1 := Aside0.mk hC1; clear HB HZ hb hR hC1 hwa; have HB := n0_; have HZ := n1_; clear n0_ n1_) | (go_at_call 10; (with_reducible refine (ccR_calls k A1 c1 v c _ HC1.out hc1 H2.out).mono ?_); rintro e w2 ⟨rfl, hb⟩; have n0_ := Aside0.mk (HB.out.trans (hb.mono HB.out.size)); have n1_ := Aside0.mk (blk_below HZ.out hb); clear HB HZ hb; have HB := n0_; have HZ := n1_; clear n0_ n1_) | ((with_reducible refine gate_store (t := 35) rfl ?_); refine wpList_store_row rfl 35 _ _ rfl w.heap.size c.cells rfl rfl 35 Own.Ctl.zero.cells HZ.out (cc_info.trans HSZ.out) rfl (by simp [Own.Ctl.cells, Value.oneCell']) ?_))
  refine bodyPost_ret (results_cell_row rfl _ _ w.heap.size 35 c.cells (0, 0) _ rfl (setRow_heap _ _ _ _ _ _ HZ.out) hu35 rfl (cc_info.trans HSZ.out)) rfl ?_
  exact ⟨rfl, age_control.below HB.out (Nat.le_refl _) _⟩
def age_control.f (k : Nat) (l0 : List S42) : Option (Bool × Bool × Bool × Bool × Bool × Bool × Bool × Bool × Bool × Bool × Bool × Bool × Int × Bool × Int × Bool × Int × Bool × Int × Bool × Int) := (age_control.R k l0).bind fun c => some c.tup
theorem age_control.mono : ∀ a0 k, LeO (age_control.f k a0) (age_control.f (k + 1) a0) := by
  intro a0 k
  unfold age_control.f
  exact LeO.bind (age_control.monoR k a0) fun _ => LeO.refl _
theorem age_control.calls (k : Nat) (A0 : Option Addr) (c0 : Nat) (l0 : List S42) (r1 : Bool) (r2 : Bool) (r3 : Bool) (r4 : Bool) (r5 : Bool) (r6 : Bool) (r7 : Bool) (r8 : Bool) (r9 : Bool) (r10 : Bool) (r11 : Bool) (r12 : Bool) (r13 : Int) (r14 : Bool) (r15 : Int) (r16 : Bool) (r17 : Int) (r18 : Bool) (r19 : Int) (r20 : Bool) (r21 : Int) (w : World) (hr0 : Kd.C k42 w A0 l0.length l0) (hc0 : l0.length ≤ c0) (h : age_control.f k l0 = some (r1, r2, r3, r4, r5, r6, r7, r8, r9, r10, r11, r12, r13, r14, r15, r16, r17, r18, r19, r20, r21)) :
    Calls Tryd.prog 32 #[.slice A0 l0.length c0] w fun e w' => e = .returned (.agg #[.bool r1, .bool r2, .bool r3, .bool r4, .bool r5, .bool r6, .bool r7, .bool r8, .bool r9, .bool r10, .bool r11, .bool r12, .int .i64 r13, .bool r14, .int .i64 r15, .bool r16, .int .i64 r17, .bool r18, .int .i64 r19, .bool r20, .int .i64 r21]) ∧ Below w.heap.size w w' := by
  unfold age_control.f at h
  obtain ⟨c, h1, h⟩ := Option.bind_eq_some_iff.1 h
  have h := Option.some.inj h
  unfold Own.Ctl.tup at h
  simp only [Prod.mk.injEq] at h
  obtain ⟨rfl, rfl, rfl, rfl, rfl, rfl, rfl, rfl, rfl, rfl, rfl, rfl, rfl, rfl, rfl, rfl, rfl, rfl, rfl, rfl, rfl⟩ := h
  exact age_control.own k A0 c0 l0 c w hr0 hc0 h1


/-! ### age_Explicit: function 20 -/
def age_Explicit.f (k : Nat) (a0 : Bool) (l1 : List (S42)) : Option (Bool) := (age_control.f k l1).bind fun bt152 => (if a0 = true then (if bt152.2.2.2.2.2.2.2.2.2.2.2.2.2.1 = true then (some true) else (if bt152.2.2.2.2.2.2.2.2.2.2.2.1 = true then (some true) else ((head_All.f k l1 (⟨#[69, 120, 112, 105, 114, 101, 115]⟩ : ByteArray)).bind fun t174 => (some (decide ((t174.length : Int) > 0)))))) else (if bt152.2.2.2.2.2.2.2.2.2.2.2.1 = true then (some true) else ((head_All.f k l1 (⟨#[69, 120, 112, 105, 114, 101, 115]⟩ : ByteArray)).bind fun t177 => (some (decide ((t177.length : Int) > 0))))))
theorem age_Explicit.mono : ∀ a0 a1 k, LeO (age_Explicit.f k a0 a1) (age_Explicit.f (k + 1) a0 a1) := by
  intro a0 a1 k
  unfold age_Explicit.f
  repeat' first
      | (with_reducible exact age_control.mono _ _)
      | (with_reducible exact head_All.mono _ _ _)
      | (with_reducible exact LeO.refl _)
      | (with_reducible exact LeO.none _)
      | (with_reducible refine LeO.ite ?_ ?_)
      | (with_reducible refine LeO.bind ?_ (fun _ => ?_))
      | exact age_control.mono _ _
      | exact head_All.mono _ _ _
      | exact LeO.none _
      | refine LeO.ite ?_ ?_
      | refine LeO.bind ?_ (fun _ => ?_)
set_option maxHeartbeats 8000000 in
set_option maxRecDepth 100000 in
theorem age_Explicit.calls (k : Nat) (a0 : Bool) (A1 : Option Addr) (c1 : Nat) (l1 : List (S42)) (r : Bool) (w : World) (hr1 : Kd.C k42 w A1 l1.length l1) (hc1 : l1.length ≤ c1) (h : age_Explicit.f k a0 l1 = some r) :
    Calls Tryd.prog 20 #[.bool a0, .slice A1 l1.length c1] w fun e w' => e = .returned (.bool r) ∧ Below w.heap.size w w' := by
  have hu35 := Tryd.underlying35
  have HR1 := Aside0.mk hr1
  have HC1 := Aside0.mk hc1
  clear hr1 hc1
  have HB := Aside0.mk (Below.refl w.heap.size w)
  have H : ((age_control.f k l1).bind fun bt152 => (if a0 = true then (if bt152.2.2.2.2.2.2.2.2.2.2.2.2.2.1 = true then (some true) else (if bt152.2.2.2.2.2.2.2.2.2.2.2.1 = true then (some true) else ((head_All.f k l1 (⟨#[69, 120, 112, 105, 114, 101, 115]⟩ : ByteArray)).bind fun t174 => (some (decide ((t174.length : Int) > 0)))))) else (if bt152.2.2.2.2.2.2.2.2.2.2.2.1 = true then (some true) else ((head_All.f k l1 (⟨#[69, 120, 112, 105, 114, 101, 115]⟩ : ByteArray)).bind fun t177 => (some (decide ((t177.length : Int) > 0))))))) = some r := h
  clear h
  replace H := Option.bind_eq_some_iff.mp H
  obtain ⟨⟨t152, t153, t154, t155, t156, t157, t158, t159, t160, t161, t162, t163, t164, t165, t166, t167, t168, t169, t170, t171, t172⟩, A30, H⟩ := H
  replace H : (if a0 = true then (if t165 = true then (some true) else (if t163 = true then (some true) else ((head_All.f k l1 (⟨#[69, 120, 112, 105, 114, 101, 115]⟩ : ByteArray)).bind fun t174 => (some (decide ((t174.length : Int) > 0)))))) else (if t163 = true then (some true) else ((head_All.f k l1 (⟨#[69, 120, 112, 105, 114, 101, 115]⟩ : ByteArray)).bind fun t177 => (some (decide ((t177.length : Int) > 0)))))) = some r := H
  have A3 := Aside0.mk A30
  clear A30
  by_cases c4 : a0 = true
  · subst c4
    have H1 : (if t165 = true then (some true) else (if t163 = true then (some true) else ((head_All.f k l1 (⟨#[69, 120, 112, 105, 114, 101, 115]⟩ : ByteArray)).bind fun t174 => (some (decide ((t174.length : Int) > 0)))))) = some r := by rw [if_pos rfl] at H; exact H
    clear H
    have H := H1
    clear H1
    by_cases c5 : t165 = true
    · subst c5
      have H1 : (some true) = some r := by rw [if_pos rfl] at H; exact H
      clear H
      have H := H1
      clear H1
      obtain rfl := Option.some.inj H
      go_enter Tryd.func20, Tryd.ntmps20
      go_wp2_with (first | ((with_reducible refine gate_store (t := 35) rfl ?_); refine wpList_store_row rfl 35 _ _ rfl _ #[.bool t152, .bool t153, .bool t154, .bool t155, .bool t156, .bool t157, .bool t158, .bool t159, .bool t160, .bool t161, .bool t162, .bool t163, .int .i64 t164, .bool true, .int .i64 t166, .bool t167, .int .i64 t168, .bool t169, .int .i64 t170, .bool t171, .int .i64 t172] rfl rfl 35 _ BK173.out (by kernel_rfl) rfl (by simp [Value.oneCell']) ?_; obtain ⟨wrow, hwrow⟩ : ∃ wr_, wr_ = World.setRow w7 gb173 #[.bool t152, .bool t153, .bool t154, .bool t155, .bool t156, .bool t157, .bool t158, .bool t159, .bool t160, .bool t161, .bool t162, .bool t163, .int .i64 t164, .bool true, .int .i64 t166, .bool t167, .int .i64 t168, .bool t169, .int .i64 t170, .bool t171, .int .i64 t172] := ⟨_, rfl⟩; rw [← hwrow]; have HBrow := Aside0.mk (by rw [hwrow]; exact age_control.below HB.out GW173.out _ : Below w.heap.size w wrow); have BKrow := Aside0.mk (by rw [hwrow]; exact setRow_heap _ _ _ _ _ _ BK173.out : wrow.heap[gb173]? = some (.cells #[.bool t152, .bool t153, .bool t154, .bool t155, .bool t156, .bool t157, .bool t158, .bool t159, .bool t160, .bool t161, .bool t162, .bool t163, .int .i64 t164, .bool true, .int .i64 t166, .bool t167, .int .i64 t168, .bool t169, .int .i64 t170, .bool t171, .int .i64 t172] 35 (0, 0))); clear hwrow HB BK173; have HB := HBrow; have BK173 := BKrow; clear HBrow BKrow; have hcr8_11 : wrow.cell? ⟨gb173, 11, none⟩ = some (.bool t163) := (blk_cell BK173.out 11).trans rfl; have hcr8_13 : wrow.cell? ⟨gb173, 13, none⟩ = some (.bool true) := (blk_cell BK173.out 13).trans rfl; clear hcz8_0 hcz8_1 hcz8_2 hcz8_3 hcz8_4 hcz8_5 hcz8_6 hcz8_7 hcz8_8 hcz8_9 hcz8_10 hcz8_11 hcz8_12 hcz8_13 hcz8_14 hcz8_15 hcz8_16 hcz8_17 hcz8_18 hcz8_19 hcz8_20 hfz8_0 hfz8_1 hfz8_2 hfz8_3 hfz8_4 hfz8_5 hfz8_6 hfz8_7 hfz8_8 hfz8_9 hfz8_10 hfz8_11 hfz8_12 hfz8_13 hfz8_14 hfz8_15 hfz8_16 hfz8_17 hfz8_18 hfz8_19 hfz8_20) | ((with_reducible refine gate_callee (f := 32) rfl ?_); refine goesL_ (some 7) rfl rfl Tryd.func32 (by kernel_rfl) rfl #[.slice A1 l1.length c1] rfl (by (try simp only [List.map_toArray, List.map_cons, List.map_nil]); first | done | rfl | (simp only [List.length_drop, List.length_take]; rfl)) ?_; (with_reducible refine (age_control.calls k _ _ l1 t152 t153 t154 t155 t156 t157 t158 t159 t160 t161 t162 t163 t164 true t166 t167 t168 t169 t170 t171 t172 _ ?side1 ?side2 A3.out).mono ?_); (case side1 => repeat (first | exact HR1.out | (with_reducible refine Kd.C_alloc ?_ _) | (with_reducible refine Kd.C_drewN ?_ _) | (with_reducible refine Kd.C_drew ?_))); (case side2 => exact HC1.out); rintro e w6 ⟨rfl, hb⟩; refine ⟨_, rfl, ?_⟩; have n0_ := Aside0.mk (below_step (by repeat (first | (with_reducible first | exact HB.out | apply below_alloc | apply pw_below_drewN | apply below_drew1) | exact HB.out)) hb); clear HB; have HB := n0_; clear n0_; (try clear hb); (try clear hb2); (try clear hk); (try clear hi)) | ((with_reducible refine gate_dst (N := 5) rfl ?_); (try (refine gate_guard (by rfl) ?_; dsimp only)); refine box_event ?hg (N := 5) ?hd (cs := #[.bool false, .bool false, .bool false, .bool false, .bool false, .bool false, .bool false, .bool false, .bool false, .bool false, .bool false, .bool false, .int .i64 0, .bool false, .int .i64 0, .bool false, .int .i64 0, .bool false, .int .i64 0, .bool false, .int .i64 0]) (t := 35) ?hr ?_; (case hd => rfl); (case hg => rfl); (case hr => first | (go_simp; done) | (go_simp; rfl)); intro gb173 hg w7 hbox hb; have n0_ := Aside0.mk (below_step (by repeat (first | (with_reducible first | exact HB.out | apply below_alloc | apply pw_below_drewN | apply below_drew1) | exact HB.out)) hb); have n1_ := Aside0.mk (hbox); have n2_ := Aside0.mk ((by rw [hg]; exact (below_size (by repeat (first | (with_reducible first | exact HB.out | apply below_alloc | apply pw_below_drewN | apply below_drew1) | exact HB.out))) : w.heap.size ≤ gb173)); have n3_ := Aside0.mk ((by rw [hg]; exact (below_size (by repeat (first | (with_reducible first | exact HB.out | apply below_alloc | apply pw_below_drewN | apply below_drew1) | exact HB.out))) : w.heap.size ≤ gb173)); clear HB; have HB := n0_; have BK173 := n1_; have GW173 := n2_; have GE173 := n3_; clear n0_ n1_ n2_ n3_; clear hb hbox hg; have hcz8_0 : w7.cell? ⟨gb173, 0, none⟩ = some (.bool false) := (blk_cell BK173.out 0).trans rfl; have hcz8_1 : w7.cell? ⟨gb173, 1, none⟩ = some (.bool false) := (blk_cell BK173.out 1).trans rfl; have hcz8_2 : w7.cell? ⟨gb173, 2, none⟩ = some (.bool false) := (blk_cell BK173.out 2).trans rfl; have hcz8_3 : w7.cell? ⟨gb173, 3, none⟩ = some (.bool false) := (blk_cell BK173.out 3).trans rfl; have hcz8_4 : w7.cell? ⟨gb173, 4, none⟩ = some (.bool false) := (blk_cell BK173.out 4).trans rfl; have hcz8_5 : w7.cell? ⟨gb173, 5, none⟩ = some (.bool false) := (blk_cell BK173.out 5).trans rfl; have hcz8_6 : w7.cell? ⟨gb173, 6, none⟩ = some (.bool false) := (blk_cell BK173.out 6).trans rfl; have hcz8_7 : w7.cell? ⟨gb173, 7, none⟩ = some (.bool false) := (blk_cell BK173.out 7).trans rfl; have hcz8_8 : w7.cell? ⟨gb173, 8, none⟩ = some (.bool false) := (blk_cell BK173.out 8).trans rfl; have hcz8_9 : w7.cell? ⟨gb173, 9, none⟩ = some (.bool false) := (blk_cell BK173.out 9).trans rfl; have hcz8_10 : w7.cell? ⟨gb173, 10, none⟩ = some (.bool false) := (blk_cell BK173.out 10).trans rfl; have hcz8_11 : w7.cell? ⟨gb173, 11, none⟩ = some (.bool false) := (blk_cell BK173.out 11).trans rfl; have hcz8_12 : w7.cell? ⟨gb173, 12, none⟩ = some (.int .i64 0) := (blk_cell BK173.out 12).trans rfl; have hcz8_13 : w7.cell? ⟨gb173, 13, none⟩ = some (.bool false) := (blk_cell BK173.out 13).trans rfl; have hcz8_14 : w7.cell? ⟨gb173, 14, none⟩ = some (.int .i64 0) := (blk_cell BK173.out 14).trans rfl; have hcz8_15 : w7.cell? ⟨gb173, 15, none⟩ = some (.bool false) := (blk_cell BK173.out 15).trans rfl; have hcz8_16 : w7.cell? ⟨gb173, 16, none⟩ = some (.int .i64 0) := (blk_cell BK173.out 16).trans rfl; have hcz8_17 : w7.cell? ⟨gb173, 17, none⟩ = some (.bool false) := (blk_cell BK173.out 17).trans rfl; have hcz8_18 : w7.cell? ⟨gb173, 18, none⟩ = some (.int .i64 0) := (blk_cell BK173.out 18).trans rfl; have hcz8_19 : w7.cell? ⟨gb173, 19, none⟩ = some (.bool false) := (blk_cell BK173.out 19).trans rfl; have hcz8_20 : w7.cell? ⟨gb173, 20, none⟩ = some (.int .i64 0) := (blk_cell BK173.out 20).trans rfl; have hfz8_0 := blk_frozen BK173.out 0; have hfz8_1 := blk_frozen BK173.out 1; have hfz8_2 := blk_frozen BK173.out 2; have hfz8_3 := blk_frozen BK173.out 3; have hfz8_4 := blk_frozen BK173.out 4; have hfz8_5 := blk_frozen BK173.out 5; have hfz8_6 := blk_frozen BK173.out 6; have hfz8_7 := blk_frozen BK173.out 7; have hfz8_8 := blk_frozen BK173.out 8; have hfz8_9 := blk_frozen BK173.out 9; have hfz8_10 := blk_frozen BK173.out 10; have hfz8_11 := blk_frozen BK173.out 11; have hfz8_12 := blk_frozen BK173.out 12; have hfz8_13 := blk_frozen BK173.out 13; have hfz8_14 := blk_frozen BK173.out 14; have hfz8_15 := blk_frozen BK173.out 15; have hfz8_16 := blk_frozen BK173.out 16; have hfz8_17 := blk_frozen BK173.out 17; have hfz8_18 := blk_frozen BK173.out 18; have hfz8_19 := blk_frozen BK173.out 19; have hfz8_20 := blk_frozen BK173.out 20))
      go_ret
      exact ⟨by first | rfl | (simp [errW_none, errW_some] <;> rfl) | (simp [*, errW_none, errW_some] <;> rfl), by repeat (first | (with_reducible first | exact HB.out | apply below_alloc | apply pw_below_drewN | apply below_drew1 | refine below_set ?_ GE173.out) | exact HB.out)⟩
    · replace c5 := Bool.eq_false_iff.mpr c5
      subst c5
      have H1 : (if t163 = true then (some true) else ((head_All.f k l1 (⟨#[69, 120, 112, 105, 114, 101, 115]⟩ : ByteArray)).bind fun t174 => (some (decide ((t174.length : Int) > 0))))) = some r := by rw [if_neg (show ¬ (false = true) by decide)] at H; exact H
      clear H
      have H := H1
      clear H1
      by_cases c9 : t163 = true
      · subst c9
        have H1 : (some true) = some r := by rw [if_pos rfl] at H; exact H
        clear H
        have H := H1
        clear H1
        obtain rfl := Option.some.inj H
        go_enter Tryd.func20, Tryd.ntmps20
        go_wp2_with (first | ((with_reducible refine gate_store (t := 35) rfl ?_); refine wpList_store_row rfl 35 _ _ rfl _ #[.bool t152, .bool t153, .bool t154, .bool t155, .bool t156, .bool t157, .bool t158, .bool t159, .bool t160, .bool t161, .bool t162, .bool true, .int .i64 t164, .bool false, .int .i64 t166, .bool t167, .int .i64 t168, .bool t169, .int .i64 t170, .bool t171, .int .i64 t172] rfl rfl 35 _ BK173.out (by kernel_rfl) rfl (by simp [Value.oneCell']) ?_; obtain ⟨wrow, hwrow⟩ : ∃ wr_, wr_ = World.setRow w11 gb173 #[.bool t152, .bool t153, .bool t154, .bool t155, .bool t156, .bool t157, .bool t158, .bool t159, .bool t160, .bool t161, .bool t162, .bool true, .int .i64 t164, .bool false, .int .i64 t166, .bool t167, .int .i64 t168, .bool t169, .int .i64 t170, .bool t171, .int .i64 t172] := ⟨_, rfl⟩; rw [← hwrow]; have HBrow := Aside0.mk (by rw [hwrow]; exact age_control.below HB.out GW173.out _ : Below w.heap.size w wrow); have BKrow := Aside0.mk (by rw [hwrow]; exact setRow_heap _ _ _ _ _ _ BK173.out : wrow.heap[gb173]? = some (.cells #[.bool t152, .bool t153, .bool t154, .bool t155, .bool t156, .bool t157, .bool t158, .bool t159, .bool t160, .bool t161, .bool t162, .bool true, .int .i64 t164, .bool false, .int .i64 t166, .bool t167, .int .i64 t168, .bool t169, .int .i64 t170, .bool t171, .int .i64 t172] 35 (0, 0))); clear hwrow HB BK173; have HB := HBrow; have BK173 := BKrow; clear HBrow BKrow; have hcr12_11 : wrow.cell? ⟨gb173, 11, none⟩ = some (.bool true) := (blk_cell BK173.out 11).trans rfl; have hcr12_13 : wrow.cell? ⟨gb173, 13, none⟩ = some (.bool false) := (blk_cell BK173.out 13).trans rfl; clear hcz12_0 hcz12_1 hcz12_2 hcz12_3 hcz12_4 hcz12_5 hcz12_6 hcz12_7 hcz12_8 hcz12_9 hcz12_10 hcz12_11 hcz12_12 hcz12_13 hcz12_14 hcz12_15 hcz12_16 hcz12_17 hcz12_18 hcz12_19 hcz12_20 hfz12_0 hfz12_1 hfz12_2 hfz12_3 hfz12_4 hfz12_5 hfz12_6 hfz12_7 hfz12_8 hfz12_9 hfz12_10 hfz12_11 hfz12_12 hfz12_13 hfz12_14 hfz12_15 hfz12_16 hfz12_17 hfz12_18 hfz12_19 hfz12_20) | ((with_reducible refine gate_callee (f := 32) rfl ?_); refine goesL_ (some 7) rfl rfl Tryd.func32 (by kernel_rfl) rfl #[.slice A1 l1.length c1] rfl (by (try simp only [List.map_toArray, List.map_cons, List.map_nil]); first | done | rfl | (simp only [List.length_drop, List.length_take]; rfl)) ?_; (with_reducible refine (age_control.calls k _ _ l1 t152 t153 t154 t155 t156 t157 t158 t159 t160 t161 t162 true t164 false t166 t167 t168 t169 t170 t171 t172 _ ?side1 ?side2 A3.out).mono ?_); (case side1 => repeat (first | exact HR1.out | (with_reducible refine Kd.C_alloc ?_ _) | (with_reducible refine Kd.C_drewN ?_ _) | (with_reducible refine Kd.C_drew ?_))); (case side2 => exact HC1.out); rintro e w10 ⟨rfl, hb⟩; refine ⟨_, rfl, ?_⟩; have n0_ := Aside0.mk (below_step (by repeat (first | (with_reducible first | exact HB.out | apply below_alloc | apply pw_below_drewN | apply below_drew1) | exact HB.out)) hb); clear HB; have HB := n0_; clear n0_; (try clear hb); (try clear hb2); (try clear hk); (try clear hi)) | ((with_reducible refine gate_dst (N := 5) rfl ?_); (try (refine gate_guard (by rfl) ?_; dsimp only)); refine box_event ?hg (N := 5) ?hd (cs := #[.bool false, .bool false, .bool false, .bool false, .bool false, .bool false, .bool false, .bool false, .bool false, .bool false, .bool false, .bool false, .int .i64 0, .bool false, .int .i64 0, .bool false, .int .i64 0, .bool false, .int .i64 0, .bool false, .int .i64 0]) (t := 35) ?hr ?_; (case hd => rfl); (case hg => rfl); (case hr => first | (go_simp; done) | (go_simp; rfl)); intro gb173 hg w11 hbox hb; have n0_ := Aside0.mk (below_step (by repeat (first | (with_reducible first | exact HB.out | apply below_alloc | apply pw_below_drewN | apply below_drew1) | exact HB.out)) hb); have n1_ := Aside0.mk (hbox); have n2_ := Aside0.mk ((by rw [hg]; exact (below_size (by repeat (first | (with_reducible first | exact HB.out | apply below_alloc | apply pw_below_drewN | apply below_drew1) | exact HB.out))) : w.heap.size ≤ gb173)); have n3_ := Aside0.mk ((by rw [hg]; exact (below_size (by repeat (first | (with_reducible first | exact HB.out | apply below_alloc | apply pw_below_drewN | apply below_drew1) | exact HB.out))) : w.heap.size ≤ gb173)); clear HB; have HB := n0_; have BK173 := n1_; have GW173 := n2_; have GE173 := n3_; clear n0_ n1_ n2_ n3_; clear hb hbox hg; have hcz12_0 : w11.cell? ⟨gb173, 0, none⟩ = some (.bool false) := (blk_cell BK173.out 0).trans rfl; have hcz12_1 : w11.cell? ⟨gb173, 1, none⟩ = some (.bool false) := (blk_cell BK173.out 1).trans rfl; have hcz12_2 : w11.cell? ⟨gb173, 2, none⟩ = some (.bool false) := (blk_cell BK173.out 2).trans rfl; have hcz12_3 : w11.cell? ⟨gb173, 3, none⟩ = some (.bool false) := (blk_cell BK173.out 3).trans rfl; have hcz12_4 : w11.cell? ⟨gb173, 4, none⟩ = some (.bool false) := (blk_cell BK173.out 4).trans rfl; have hcz12_5 : w11.cell? ⟨gb173, 5, none⟩ = some (.bool false) := (blk_cell BK173.out 5).trans rfl; have hcz12_6 : w11.cell? ⟨gb173, 6, none⟩ = some (.bool false) := (blk_cell BK173.out 6).trans rfl; have hcz12_7 : w11.cell? ⟨gb173, 7, none⟩ = some (.bool false) := (blk_cell BK173.out 7).trans rfl; have hcz12_8 : w11.cell? ⟨gb173, 8, none⟩ = some (.bool false) := (blk_cell BK173.out 8).trans rfl; have hcz12_9 : w11.cell? ⟨gb173, 9, none⟩ = some (.bool false) := (blk_cell BK173.out 9).trans rfl; have hcz12_10 : w11.cell? ⟨gb173, 10, none⟩ = some (.bool false) := (blk_cell BK173.out 10).trans rfl; have hcz12_11 : w11.cell? ⟨gb173, 11, none⟩ = some (.bool false) := (blk_cell BK173.out 11).trans rfl; have hcz12_12 : w11.cell? ⟨gb173, 12, none⟩ = some (.int .i64 0) := (blk_cell BK173.out 12).trans rfl; have hcz12_13 : w11.cell? ⟨gb173, 13, none⟩ = some (.bool false) := (blk_cell BK173.out 13).trans rfl; have hcz12_14 : w11.cell? ⟨gb173, 14, none⟩ = some (.int .i64 0) := (blk_cell BK173.out 14).trans rfl; have hcz12_15 : w11.cell? ⟨gb173, 15, none⟩ = some (.bool false) := (blk_cell BK173.out 15).trans rfl; have hcz12_16 : w11.cell? ⟨gb173, 16, none⟩ = some (.int .i64 0) := (blk_cell BK173.out 16).trans rfl; have hcz12_17 : w11.cell? ⟨gb173, 17, none⟩ = some (.bool false) := (blk_cell BK173.out 17).trans rfl; have hcz12_18 : w11.cell? ⟨gb173, 18, none⟩ = some (.int .i64 0) := (blk_cell BK173.out 18).trans rfl; have hcz12_19 : w11.cell? ⟨gb173, 19, none⟩ = some (.bool false) := (blk_cell BK173.out 19).trans rfl; have hcz12_20 : w11.cell? ⟨gb173, 20, none⟩ = some (.int .i64 0) := (blk_cell BK173.out 20).trans rfl; have hfz12_0 := blk_frozen BK173.out 0; have hfz12_1 := blk_frozen BK173.out 1; have hfz12_2 := blk_frozen BK173.out 2; have hfz12_3 := blk_frozen BK173.out 3; have hfz12_4 := blk_frozen BK173.out 4; have hfz12_5 := blk_frozen BK173.out 5; have hfz12_6 := blk_frozen BK173.out 6; have hfz12_7 := blk_frozen BK173.out 7; have hfz12_8 := blk_frozen BK173.out 8; have hfz12_9 := blk_frozen BK173.out 9; have hfz12_10 := blk_frozen BK173.out 10; have hfz12_11 := blk_frozen BK173.out 11; have hfz12_12 := blk_frozen BK173.out 12; have hfz12_13 := blk_frozen BK173.out 13; have hfz12_14 := blk_frozen BK173.out 14; have hfz12_15 := blk_frozen BK173.out 15; have hfz12_16 := blk_frozen BK173.out 16; have hfz12_17 := blk_frozen BK173.out 17; have hfz12_18 := blk_frozen BK173.out 18; have hfz12_19 := blk_frozen BK173.out 19; have hfz12_20 := blk_frozen BK173.out 20))
        go_ret
        exact ⟨by first | rfl | (simp [errW_none, errW_some] <;> rfl) | (simp [*, errW_none, errW_some] <;> rfl), by repeat (first | (with_reducible first | exact HB.out | apply below_alloc | apply pw_below_drewN | apply below_drew1 | refine below_set ?_ GE173.out) | exact HB.out)⟩
      · replace c9 := Bool.eq_false_iff.mpr c9
        subst c9
        have H1 : ((head_All.f k l1 (⟨#[69, 120, 112, 105, 114, 101, 115]⟩ : ByteArray)).bind fun t174 => (some (decide ((t174.length : Int) > 0)))) = some r := by rw [if_neg (show ¬ (false = true) by decide)] at H; exact H
        clear H
        have H := H1
        clear H1
        replace H := Option.bind_eq_some_iff.mp H
        obtain ⟨t174, A130, H⟩ := H
        replace H : (some (decide ((t174.length : Int) > 0))) = some r := H
        have A13 := Aside0.mk A130
        clear A130
        obtain rfl := Option.some.inj H
        go_enter Tryd.func20, Tryd.ntmps20
        go_wp2_with (first | ((with_reducible refine gate_store (t := 35) rfl ?_); refine wpList_store_row rfl 35 _ _ rfl _ #[.bool t152, .bool t153, .bool t154, .bool t155, .bool t156, .bool t157, .bool t158, .bool t159, .bool t160, .bool t161, .bool t162, .bool false, .int .i64 t164, .bool false, .int .i64 t166, .bool t167, .int .i64 t168, .bool t169, .int .i64 t170, .bool t171, .int .i64 t172] rfl rfl 35 _ BK173.out (by kernel_rfl) rfl (by simp [Value.oneCell']) ?_; obtain ⟨wrow, hwrow⟩ : ∃ wr_, wr_ = World.setRow w15 gb173 #[.bool t152, .bool t153, .bool t154, .bool t155, .bool t156, .bool t157, .bool t158, .bool t159, .bool t160, .bool t161, .bool t162, .bool false, .int .i64 t164, .bool false, .int .i64 t166, .bool t167, .int .i64 t168, .bool t169, .int .i64 t170, .bool t171, .int .i64 t172] := ⟨_, rfl⟩; rw [← hwrow]; have HBrow := Aside0.mk (by rw [hwrow]; exact age_control.below HB.out GW173.out _ : Below w.heap.size w wrow); have BKrow := Aside0.mk (by rw [hwrow]; exact setRow_heap _ _ _ _ _ _ BK173.out : wrow.heap[gb173]? = some (.cells #[.bool t152, .bool t153, .bool t154, .bool t155, .bool t156, .bool t157, .bool t158, .bool t159, .bool t160, .bool t161, .bool t162, .bool false, .int .i64 t164, .bool false, .int .i64 t166, .bool t167, .int .i64 t168, .bool t169, .int .i64 t170, .bool t171, .int .i64 t172] 35 (0, 0))); clear hwrow HB BK173; have HB := HBrow; have BK173 := BKrow; clear HBrow BKrow; have hcr16_11 : wrow.cell? ⟨gb173, 11, none⟩ = some (.bool false) := (blk_cell BK173.out 11).trans rfl; have hcr16_13 : wrow.cell? ⟨gb173, 13, none⟩ = some (.bool false) := (blk_cell BK173.out 13).trans rfl; clear hcz16_0 hcz16_1 hcz16_2 hcz16_3 hcz16_4 hcz16_5 hcz16_6 hcz16_7 hcz16_8 hcz16_9 hcz16_10 hcz16_11 hcz16_12 hcz16_13 hcz16_14 hcz16_15 hcz16_16 hcz16_17 hcz16_18 hcz16_19 hcz16_20 hfz16_0 hfz16_1 hfz16_2 hfz16_3 hfz16_4 hfz16_5 hfz16_6 hfz16_7 hfz16_8 hfz16_9 hfz16_10 hfz16_11 hfz16_12 hfz16_13 hfz16_14 hfz16_15 hfz16_16 hfz16_17 hfz16_18 hfz16_19 hfz16_20) | ((with_reducible refine gate_callee (f := 32) rfl ?_); refine goesL_ (some 7) rfl rfl Tryd.func32 (by kernel_rfl) rfl #[.slice A1 l1.length c1] rfl (by (try simp only [List.map_toArray, List.map_cons, List.map_nil]); first | done | rfl | (simp only [List.length_drop, List.length_take]; rfl)) ?_; (with_reducible refine (age_control.calls k _ _ l1 t152 t153 t154 t155 t156 t157 t158 t159 t160 t161 t162 false t164 false t166 t167 t168 t169 t170 t171 t172 _ ?side1 ?side2 A3.out).mono ?_); (case side1 => repeat (first | exact HR1.out | (with_reducible refine Kd.C_alloc ?_ _) | (with_reducible refine Kd.C_drewN ?_ _) | (with_reducible refine Kd.C_drew ?_))); (case side2 => exact HC1.out); rintro e w14 ⟨rfl, hb⟩; refine ⟨_, rfl, ?_⟩; have n0_ := Aside0.mk (below_step (by repeat (first | (with_reducible first | exact HB.out | apply below_alloc | apply pw_below_drewN | apply below_drew1) | exact HB.out)) hb); clear HB; have HB := n0_; clear n0_; (try clear hb); (try clear hb2); (try clear hk); (try clear hi)) | ((with_reducible refine gate_dst (N := 5) rfl ?_); (try (refine gate_guard (by rfl) ?_; dsimp only)); refine box_event ?hg (N := 5) ?hd (cs := #[.bool false, .bool false, .bool false, .bool false, .bool false, .bool false, .bool false, .bool false, .bool false, .bool false, .bool false, .bool false, .int .i64 0, .bool false, .int .i64 0, .bool false, .int .i64 0, .bool false, .int .i64 0, .bool false, .int .i64 0]) (t := 35) ?hr ?_; (case hd => rfl); (case hg => rfl); (case hr => first | (go_simp; done) | (go_simp; rfl)); intro gb173 hg w15 hbox hb; have n0_ := Aside0.mk (below_step (by repeat (first | (with_reducible first | exact HB.out | apply below_alloc | apply pw_below_drewN | apply below_drew1) | exact HB.out)) hb); have n1_ := Aside0.mk (hbox); have n2_ := Aside0.mk ((by rw [hg]; exact (below_size (by repeat (first | (with_reducible first | exact HB.out | apply below_alloc | apply pw_below_drewN | apply below_drew1) | exact HB.out))) : w.heap.size ≤ gb173)); have n3_ := Aside0.mk ((by rw [hg]; exact (below_size (by repeat (first | (with_reducible first | exact HB.out | apply below_alloc | apply pw_below_drewN | apply below_drew1) | exact HB.out))) : w.heap.size ≤ gb173)); clear HB; have HB := n0_; have BK173 := n1_; have GW173 := n2_; have GE173 := n3_; clear n0_ n1_ n2_ n3_; clear hb hbox hg; have hcz16_0 : w15.cell? ⟨gb173, 0, none⟩ = some (.bool false) := (blk_cell BK173.out 0).trans rfl; have hcz16_1 : w15.cell? ⟨gb173, 1, none⟩ = some (.bool false) := (blk_cell BK173.out 1).trans rfl; have hcz16_2 : w15.cell? ⟨gb173, 2, none⟩ = some (.bool false) := (blk_cell BK173.out 2).trans rfl; have hcz16_3 : w15.cell? ⟨gb173, 3, none⟩ = some (.bool false) := (blk_cell BK173.out 3).trans rfl; have hcz16_4 : w15.cell? ⟨gb173, 4, none⟩ = some (.bool false) := (blk_cell BK173.out 4).trans rfl; have hcz16_5 : w15.cell? ⟨gb173, 5, none⟩ = some (.bool false) := (blk_cell BK173.out 5).trans rfl; have hcz16_6 : w15.cell? ⟨gb173, 6, none⟩ = some (.bool false) := (blk_cell BK173.out 6).trans rfl; have hcz16_7 : w15.cell? ⟨gb173, 7, none⟩ = some (.bool false) := (blk_cell BK173.out 7).trans rfl; have hcz16_8 : w15.cell? ⟨gb173, 8, none⟩ = some (.bool false) := (blk_cell BK173.out 8).trans rfl; have hcz16_9 : w15.cell? ⟨gb173, 9, none⟩ = some (.bool false) := (blk_cell BK173.out 9).trans rfl; have hcz16_10 : w15.cell? ⟨gb173, 10, none⟩ = some (.bool false) := (blk_cell BK173.out 10).trans rfl; have hcz16_11 : w15.cell? ⟨gb173, 11, none⟩ = some (.bool false) := (blk_cell BK173.out 11).trans rfl; have hcz16_12 : w15.cell? ⟨gb173, 12, none⟩ = some (.int .i64 0) := (blk_cell BK173.out 12).trans rfl; have hcz16_13 : w15.cell? ⟨gb173, 13, none⟩ = some (.bool false) := (blk_cell BK173.out 13).trans rfl; have hcz16_14 : w15.cell? ⟨gb173, 14, none⟩ = some (.int .i64 0) := (blk_cell BK173.out 14).trans rfl; have hcz16_15 : w15.cell? ⟨gb173, 15, none⟩ = some (.bool false) := (blk_cell BK173.out 15).trans rfl; have hcz16_16 : w15.cell? ⟨gb173, 16, none⟩ = some (.int .i64 0) := (blk_cell BK173.out 16).trans rfl; have hcz16_17 : w15.cell? ⟨gb173, 17, none⟩ = some (.bool false) := (blk_cell BK173.out 17).trans rfl; have hcz16_18 : w15.cell? ⟨gb173, 18, none⟩ = some (.int .i64 0) := (blk_cell BK173.out 18).trans rfl; have hcz16_19 : w15.cell? ⟨gb173, 19, none⟩ = some (.bool false) := (blk_cell BK173.out 19).trans rfl; have hcz16_20 : w15.cell? ⟨gb173, 20, none⟩ = some (.int .i64 0) := (blk_cell BK173.out 20).trans rfl; have hfz16_0 := blk_frozen BK173.out 0; have hfz16_1 := blk_frozen BK173.out 1; have hfz16_2 := blk_frozen BK173.out 2; have hfz16_3 := blk_frozen BK173.out 3; have hfz16_4 := blk_frozen BK173.out 4; have hfz16_5 := blk_frozen BK173.out 5; have hfz16_6 := blk_frozen BK173.out 6; have hfz16_7 := blk_frozen BK173.out 7; have hfz16_8 := blk_frozen BK173.out 8; have hfz16_9 := blk_frozen BK173.out 9; have hfz16_10 := blk_frozen BK173.out 10; have hfz16_11 := blk_frozen BK173.out 11; have hfz16_12 := blk_frozen BK173.out 12; have hfz16_13 := blk_frozen BK173.out 13; have hfz16_14 := blk_frozen BK173.out 14; have hfz16_15 := blk_frozen BK173.out 15; have hfz16_16 := blk_frozen BK173.out 16; have hfz16_17 := blk_frozen BK173.out 17; have hfz16_18 := blk_frozen BK173.out 18; have hfz16_19 := blk_frozen BK173.out 19; have hfz16_20 := blk_frozen BK173.out 20) | (go_at_call 11; (with_reducible refine (head_All.calls k _ _ l1 (⟨#[69, 120, 112, 105, 114, 101, 115]⟩ : ByteArray) t174 _ ?side1 ?side2 A13.out).mono ?_); (case side1 => exact Kd.C_below HR1.out (by repeat (first | (with_reducible first | exact HB.out | apply below_alloc | apply pw_below_drewN | apply below_drew1 | refine below_set ?_ GE173.out) | exact HB.out))); (case side2 => exact HC1.out); rintro e w17 ⟨v175, rfl, ho0, hb⟩; have n0_ := Aside0.mk (Kd.R_lower ho0 (below_size (by repeat (first | (with_reducible first | exact HB.out | apply below_alloc | apply pw_below_drewN | apply below_drew1 | refine below_set ?_ GE173.out) | exact HB.out)))); have n1_ := Aside0.mk (blk_below (g := gb173) (o := .cells #[.bool t152, .bool t153, .bool t154, .bool t155, .bool t156, .bool t157, .bool t158, .bool t159, .bool t160, .bool t161, .bool t162, .bool false, .int .i64 t164, .bool false, .int .i64 t166, .bool t167, .int .i64 t168, .bool t169, .int .i64 t170, .bool t171, .int .i64 t172] 35 (0, 0)) BK173.out hb); have n2_ := Aside0.mk (below_step (by repeat (first | (with_reducible first | exact HB.out | apply below_alloc | apply pw_below_drewN | apply below_drew1 | refine below_set ?_ GE173.out) | exact HB.out)) hb); clear BK173; clear HB; have HO176 := n0_; have BK173 := n1_; have HB := n2_; clear n0_ n1_ n2_; (try clear hb); (try clear hb2); (try clear hk); (try clear hi); (try clear ho0); obtain ⟨Ao18, co18, eo18⟩ := Kd.R_slice HO176.out; subst eo18))
        go_ret
        exact ⟨by first | rfl | (simp [errW_none, errW_some] <;> rfl) | (simp [*, errW_none, errW_some] <;> rfl), by repeat (first | (with_reducible first | exact HB.out | apply below_alloc | apply pw_below_drewN | apply below_drew1 | refine below_set ?_ GE173.out) | exact HB.out)⟩
  · replace c4 := Bool.eq_false_iff.mpr c4
    subst c4
    have H1 : (if t163 = true then (some true) else ((head_All.f k l1 (⟨#[69, 120, 112, 105, 114, 101, 115]⟩ : ByteArray)).bind fun t177 => (some (decide ((t177.length : Int) > 0))))) = some r := by rw [if_neg (show ¬ (false = true) by decide)] at H; exact H
    clear H
    have H := H1
    clear H1
    by_cases c19 : t163 = true
    · subst c19
      have H1 : (some true) = some r := by rw [if_pos rfl] at H; exact H
      clear H
      have H := H1
      clear H1
      obtain rfl := Option.some.inj H
      go_enter Tryd.func20, Tryd.ntmps20
      go_wp2_with (first | ((with_reducible refine gate_store (t := 35) rfl ?_); refine wpList_store_row rfl 35 _ _ rfl _ #[.bool t152, .bool t153, .bool t154, .bool t155, .bool t156, .bool t157, .bool t158, .bool t159, .bool t160, .bool t161, .bool t162, .bool true, .int .i64 t164, .bool t165, .int .i64 t166, .bool t167, .int .i64 t168, .bool t169, .int .i64 t170, .bool t171, .int .i64 t172] rfl rfl 35 _ BK173.out (by kernel_rfl) rfl (by simp [Value.oneCell']) ?_; obtain ⟨wrow, hwrow⟩ : ∃ wr_, wr_ = World.setRow w21 gb173 #[.bool t152, .bool t153, .bool t154, .bool t155, .bool t156, .bool t157, .bool t158, .bool t159, .bool t160, .bool t161, .bool t162, .bool true, .int .i64 t164, .bool t165, .int .i64 t166, .bool t167, .int .i64 t168, .bool t169, .int .i64 t170, .bool t171, .int .i64 t172] := ⟨_, rfl⟩; rw [← hwrow]; have HBrow := Aside0.mk (by rw [hwrow]; exact age_control.below HB.out GW173.out _ : Below w.heap.size w wrow); have BKrow := Aside0.mk (by rw [hwrow]; exact setRow_heap _ _ _ _ _ _ BK173.out : wrow.heap[gb173]? = some (.cells #[.bool t152, .bool t153, .bool t154, .bool t155, .bool t156, .bool t157, .bool t158, .bool t159, .bool t160, .bool t161, .bool t162, .bool true, .int .i64 t164, .bool t165, .int .i64 t166, .bool t167, .int .i64 t168, .bool t169, .int .i64 t170, .bool t171, .int .i64 t172] 35 (0, 0))); clear hwrow HB BK173; have HB := HBrow; have BK173 := BKrow; clear HBrow BKrow; have hcr22_11 : wrow.cell? ⟨gb173, 11, none⟩ = some (.bool true) := (blk_cell BK173.out 11).trans rfl; have hcr22_13 : wrow.cell? ⟨gb173, 13, none⟩ = some (.bool t165) := (blk_cell BK173.out 13).trans rfl; clear hcz22_0 hcz22_1 hcz22_2 hcz22_3 hcz22_4 hcz22_5 hcz22_6 hcz22_7 hcz22_8 hcz22_9 hcz22_10 hcz22_11 hcz22_12 hcz22_13 hcz22_14 hcz22_15 hcz22_16 hcz22_17 hcz22_18 hcz22_19 hcz22_20 hfz22_0 hfz22_1 hfz22_2 hfz22_3 hfz22_4 hfz22_5 hfz22_6 hfz22_7 hfz22_8 hfz22_9 hfz22_10 hfz22_11 hfz22_12 hfz22_13 hfz22_14 hfz22_15 hfz22_16 hfz22_17 hfz22_18 hfz22_19 hfz22_20) | ((with_reducible refine gate_callee (f := 32) rfl ?_); refine goesL_ (some 7) rfl rfl Tryd.func32 (by kernel_rfl) rfl #[.slice A1 l1.length c1] rfl (by (try simp only [List.map_toArray, List.map_cons, List.map_nil]); first | done | rfl | (simp only [List.length_drop, List.length_take]; rfl)) ?_; (with_reducible refine (age_control.calls k _ _ l1 t152 t153 t154 t155 t156 t157 t158 t159 t160 t161 t162 true t164 t165 t166 t167 t168 t169 t170 t171 t172 _ ?side1 ?side2 A3.out).mono ?_); (case side1 => repeat (first | exact HR1.out | (with_reducible refine Kd.C_alloc ?_ _) | (with_reducible refine Kd.C_drewN ?_ _) | (with_reducible refine Kd.C_drew ?_))); (case side2 => exact HC1.out); rintro e w20 ⟨rfl, hb⟩; refine ⟨_, rfl, ?_⟩; have n0_ := Aside0.mk (below_step (by repeat (first | (with_reducible first | exact HB.out | apply below_alloc | apply pw_below_drewN | apply below_drew1) | exact HB.out)) hb); clear HB; have HB := n0_; clear n0_; (try clear hb); (try clear hb2); (try clear hk); (try clear hi)) | ((with_reducible refine gate_dst (N := 5) rfl ?_); (try (refine gate_guard (by rfl) ?_; dsimp only)); refine box_event ?hg (N := 5) ?hd (cs := #[.bool false, .bool false, .bool false, .bool false, .bool false, .bool false, .bool false, .bool false, .bool false, .bool false, .bool false, .bool false, .int .i64 0, .bool false, .int .i64 0, .bool false, .int .i64 0, .bool false, .int .i64 0, .bool false, .int .i64 0]) (t := 35) ?hr ?_; (case hd => rfl); (case hg => rfl); (case hr => first | (go_simp; done) | (go_simp; rfl)); intro gb173 hg w21 hbox hb; have n0_ := Aside0.mk (below_step (by repeat (first | (with_reducible first | exact HB.out | apply below_alloc | apply pw_below_drewN | apply below_drew1) | exact HB.out)) hb); have n1_ := Aside0.mk (hbox); have n2_ := Aside0.mk ((by rw [hg]; exact (below_size (by repeat (first | (with_reducible first | exact HB.out | apply below_alloc | apply pw_below_drewN | apply below_drew1) | exact HB.out))) : w.heap.size ≤ gb173)); have n3_ := Aside0.mk ((by rw [hg]; exact (below_size (by repeat (first | (with_reducible first | exact HB.out | apply below_alloc | apply pw_below_drewN | apply below_drew1) | exact HB.out))) : w.heap.size ≤ gb173)); clear HB; have HB := n0_; have BK173 := n1_; have GW173 := n2_; have GE173 := n3_; clear n0_ n1_ n2_ n3_; clear hb hbox hg; have hcz22_0 : w21.cell? ⟨gb173, 0, none⟩ = some (.bool false) := (blk_cell BK173.out 0).trans rfl; have hcz22_1 : w21.cell? ⟨gb173, 1, none⟩ = some (.bool false) := (blk_cell BK173.out 1).trans rfl; have hcz22_2 : w21.cell? ⟨gb173, 2, none⟩ = some (.bool false) := (blk_cell BK173.out 2).trans rfl; have hcz22_3 : w21.cell? ⟨gb173, 3, none⟩ = some (.bool false) := (blk_cell BK173.out 3).trans rfl; have hcz22_4 : w21.cell? ⟨gb173, 4, none⟩ = some (.bool false) := (blk_cell BK173.out 4).trans rfl; have hcz22_5 : w21.cell? ⟨gb173, 5, none⟩ = some (.bool false) := (blk_cell BK173.out 5).trans rfl; have hcz22_6 : w21.cell? ⟨gb173, 6, none⟩ = some (.bool false) := (blk_cell BK173.out 6).trans rfl; have hcz22_7 : w21.cell? ⟨gb173, 7, none⟩ = some (.bool false) := (blk_cell BK173.out 7).trans rfl; have hcz22_8 : w21.cell? ⟨gb173, 8, none⟩ = some (.bool false) := (blk_cell BK173.out 8).trans rfl; have hcz22_9 : w21.cell? ⟨gb173, 9, none⟩ = some (.bool false) := (blk_cell BK173.out 9).trans rfl; have hcz22_10 : w21.cell? ⟨gb173, 10, none⟩ = some (.bool false) := (blk_cell BK173.out 10).trans rfl; have hcz22_11 : w21.cell? ⟨gb173, 11, none⟩ = some (.bool false) := (blk_cell BK173.out 11).trans rfl; have hcz22_12 : w21.cell? ⟨gb173, 12, none⟩ = some (.int .i64 0) := (blk_cell BK173.out 12).trans rfl; have hcz22_13 : w21.cell? ⟨gb173, 13, none⟩ = some (.bool false) := (blk_cell BK173.out 13).trans rfl; have hcz22_14 : w21.cell? ⟨gb173, 14, none⟩ = some (.int .i64 0) := (blk_cell BK173.out 14).trans rfl; have hcz22_15 : w21.cell? ⟨gb173, 15, none⟩ = some (.bool false) := (blk_cell BK173.out 15).trans rfl; have hcz22_16 : w21.cell? ⟨gb173, 16, none⟩ = some (.int .i64 0) := (blk_cell BK173.out 16).trans rfl; have hcz22_17 : w21.cell? ⟨gb173, 17, none⟩ = some (.bool false) := (blk_cell BK173.out 17).trans rfl; have hcz22_18 : w21.cell? ⟨gb173, 18, none⟩ = some (.int .i64 0) := (blk_cell BK173.out 18).trans rfl; have hcz22_19 : w21.cell? ⟨gb173, 19, none⟩ = some (.bool false) := (blk_cell BK173.out 19).trans rfl; have hcz22_20 : w21.cell? ⟨gb173, 20, none⟩ = some (.int .i64 0) := (blk_cell BK173.out 20).trans rfl; have hfz22_0 := blk_frozen BK173.out 0; have hfz22_1 := blk_frozen BK173.out 1; have hfz22_2 := blk_frozen BK173.out 2; have hfz22_3 := blk_frozen BK173.out 3; have hfz22_4 := blk_frozen BK173.out 4; have hfz22_5 := blk_frozen BK173.out 5; have hfz22_6 := blk_frozen BK173.out 6; have hfz22_7 := blk_frozen BK173.out 7; have hfz22_8 := blk_frozen BK173.out 8; have hfz22_9 := blk_frozen BK173.out 9; have hfz22_10 := blk_frozen BK173.out 10; have hfz22_11 := blk_frozen BK173.out 11; have hfz22_12 := blk_frozen BK173.out 12; have hfz22_13 := blk_frozen BK173.out 13; have hfz22_14 := blk_frozen BK173.out 14; have hfz22_15 := blk_frozen BK173.out 15; have hfz22_16 := blk_frozen BK173.out 16; have hfz22_17 := blk_frozen BK173.out 17; have hfz22_18 := blk_frozen BK173.out 18; have hfz22_19 := blk_frozen BK173.out 19; have hfz22_20 := blk_frozen BK173.out 20))
      go_ret
      exact ⟨by first | rfl | (simp [errW_none, errW_some] <;> rfl) | (simp [*, errW_none, errW_some] <;> rfl), by repeat (first | (with_reducible first | exact HB.out | apply below_alloc | apply pw_below_drewN | apply below_drew1 | refine below_set ?_ GE173.out) | exact HB.out)⟩
    · replace c19 := Bool.eq_false_iff.mpr c19
      subst c19
      have H1 : ((head_All.f k l1 (⟨#[69, 120, 112, 105, 114, 101, 115]⟩ : ByteArray)).bind fun t177 => (some (decide ((t177.length : Int) > 0)))) = some r := by rw [if_neg (show ¬ (false = true) by decide)] at H; exact H
      clear H
      have H := H1
      clear H1
      replace H := Option.bind_eq_some_iff.mp H
      obtain ⟨t177, A230, H⟩ := H
      replace H : (some (decide ((t177.length : Int) > 0))) = some r := H
      have A23 := Aside0.mk A230
      clear A230
      obtain rfl := Option.some.inj H
      go_enter Tryd.func20, Tryd.ntmps20
      go_wp2_with (first | ((with_reducible refine gate_store (t := 35) rfl ?_); refine wpList_store_row rfl 35 _ _ rfl _ #[.bool t152, .bool t153, .bool t154, .bool t155, .bool t156, .bool t157, .bool t158, .bool t159, .bool t160, .bool t161, .bool t162, .bool false, .int .i64 t164, .bool t165, .int .i64 t166, .bool t167, .int .i64 t168, .bool t169, .int .i64 t170, .bool t171, .int .i64 t172] rfl rfl 35 _ BK173.out (by kernel_rfl) rfl (by simp [Value.oneCell']) ?_; obtain ⟨wrow, hwrow⟩ : ∃ wr_, wr_ = World.setRow w25 gb173 #[.bool t152, .bool t153, .bool t154, .bool t155, .bool t156, .bool t157, .bool t158, .bool t159, .bool t160, .bool t161, .bool t162, .bool false, .int .i64 t164, .bool t165, .int .i64 t166, .bool t167, .int .i64 t168, .bool t169, .int .i64 t170, .bool t171, .int .i64 t172] := ⟨_, rfl⟩; rw [← hwrow]; have HBrow := Aside0.mk (by rw [hwrow]; exact age_control.below HB.out GW173.out _ : Below w.heap.size w wrow); have BKrow := Aside0.mk (by rw [hwrow]; exact setRow_heap _ _ _ _ _ _ BK173.out : wrow.heap[gb173]? = some (.cells #[.bool t152, .bool t153, .bool t154, .bool t155, .bool t156, .bool t157, .bool t158, .bool t159, .bool t160, .bool t161, .bool t162, .bool false, .int .i64 t164, .bool t165, .int .i64 t166, .bool t167, .int .i64 t168, .bool t169, .int .i64 t170, .bool t171, .int .i64 t172] 35 (0, 0))); clear hwrow HB BK173; have HB := HBrow; have BK173 := BKrow; clear HBrow BKrow; have hcr26_11 : wrow.cell? ⟨gb173, 11, none⟩ = some (.bool false) := (blk_cell BK173.out 11).trans rfl; have hcr26_13 : wrow.cell? ⟨gb173, 13, none⟩ = some (.bool t165) := (blk_cell BK173.out 13).trans rfl; clear hcz26_0 hcz26_1 hcz26_2 hcz26_3 hcz26_4 hcz26_5 hcz26_6 hcz26_7 hcz26_8 hcz26_9 hcz26_10 hcz26_11 hcz26_12 hcz26_13 hcz26_14 hcz26_15 hcz26_16 hcz26_17 hcz26_18 hcz26_19 hcz26_20 hfz26_0 hfz26_1 hfz26_2 hfz26_3 hfz26_4 hfz26_5 hfz26_6 hfz26_7 hfz26_8 hfz26_9 hfz26_10 hfz26_11 hfz26_12 hfz26_13 hfz26_14 hfz26_15 hfz26_16 hfz26_17 hfz26_18 hfz26_19 hfz26_20) | ((with_reducible refine gate_callee (f := 32) rfl ?_); refine goesL_ (some 7) rfl rfl Tryd.func32 (by kernel_rfl) rfl #[.slice A1 l1.length c1] rfl (by (try simp only [List.map_toArray, List.map_cons, List.map_nil]); first | done | rfl | (simp only [List.length_drop, List.length_take]; rfl)) ?_; (with_reducible refine (age_control.calls k _ _ l1 t152 t153 t154 t155 t156 t157 t158 t159 t160 t161 t162 false t164 t165 t166 t167 t168 t169 t170 t171 t172 _ ?side1 ?side2 A3.out).mono ?_); (case side1 => repeat (first | exact HR1.out | (with_reducible refine Kd.C_alloc ?_ _) | (with_reducible refine Kd.C_drewN ?_ _) | (with_reducible refine Kd.C_drew ?_))); (case side2 => exact HC1.out); rintro e w24 ⟨rfl, hb⟩; refine ⟨_, rfl, ?_⟩; have n0_ := Aside0.mk (below_step (by repeat (first | (with_reducible first | exact HB.out | apply below_alloc | apply pw_below_drewN | apply below_drew1) | exact HB.out)) hb); clear HB; have HB := n0_; clear n0_; (try clear hb); (try clear hb2); (try clear hk); (try clear hi)) | ((with_reducible refine gate_dst (N := 5) rfl ?_); (try (refine gate_guard (by rfl) ?_; dsimp only)); refine box_event ?hg (N := 5) ?hd (cs := #[.bool false, .bool false, .bool false, .bool false, .bool false, .bool false, .bool false, .bool false, .bool false, .bool false, .bool false, .bool false, .int .i64 0, .bool false, .int .i64 0, .bool false, .int .i64 0, .bool false, .int .i64 0, .bool false, .int .i64 0]) (t := 35) ?hr ?_; (case hd => rfl); (case hg => rfl); (case hr => first | (go_simp; done) | (go_simp; rfl)); intro gb173 hg w25 hbox hb; have n0_ := Aside0.mk (below_step (by repeat (first | (with_reducible first | exact HB.out | apply below_alloc | apply pw_below_drewN | apply below_drew1) | exact HB.out)) hb); have n1_ := Aside0.mk (hbox); have n2_ := Aside0.mk ((by rw [hg]; exact (below_size (by repeat (first | (with_reducible first | exact HB.out | apply below_alloc | apply pw_below_drewN | apply below_drew1) | exact HB.out))) : w.heap.size ≤ gb173)); have n3_ := Aside0.mk ((by rw [hg]; exact (below_size (by repeat (first | (with_reducible first | exact HB.out | apply below_alloc | apply pw_below_drewN | apply below_drew1) | exact HB.out))) : w.heap.size ≤ gb173)); clear HB; have HB := n0_; have BK173 := n1_; have GW173 := n2_; have GE173 := n3_; clear n0_ n1_ n2_ n3_; clear hb hbox hg; have hcz26_0 : w25.cell? ⟨gb173, 0, none⟩ = some (.bool false) := (blk_cell BK173.out 0).trans rfl; have hcz26_1 : w25.cell? ⟨gb173, 1, none⟩ = some (.bool false) := (blk_cell BK173.out 1).trans rfl; have hcz26_2 : w25.cell? ⟨gb173, 2, none⟩ = some (.bool false) := (blk_cell BK173.out 2).trans rfl; have hcz26_3 : w25.cell? ⟨gb173, 3, none⟩ = some (.bool false) := (blk_cell BK173.out 3).trans rfl; have hcz26_4 : w25.cell? ⟨gb173, 4, none⟩ = some (.bool false) := (blk_cell BK173.out 4).trans rfl; have hcz26_5 : w25.cell? ⟨gb173, 5, none⟩ = some (.bool false) := (blk_cell BK173.out 5).trans rfl; have hcz26_6 : w25.cell? ⟨gb173, 6, none⟩ = some (.bool false) := (blk_cell BK173.out 6).trans rfl; have hcz26_7 : w25.cell? ⟨gb173, 7, none⟩ = some (.bool false) := (blk_cell BK173.out 7).trans rfl; have hcz26_8 : w25.cell? ⟨gb173, 8, none⟩ = some (.bool false) := (blk_cell BK173.out 8).trans rfl; have hcz26_9 : w25.cell? ⟨gb173, 9, none⟩ = some (.bool false) := (blk_cell BK173.out 9).trans rfl; have hcz26_10 : w25.cell? ⟨gb173, 10, none⟩ = some (.bool false) := (blk_cell BK173.out 10).trans rfl; have hcz26_11 : w25.cell? ⟨gb173, 11, none⟩ = some (.bool false) := (blk_cell BK173.out 11).trans rfl; have hcz26_12 : w25.cell? ⟨gb173, 12, none⟩ = some (.int .i64 0) := (blk_cell BK173.out 12).trans rfl; have hcz26_13 : w25.cell? ⟨gb173, 13, none⟩ = some (.bool false) := (blk_cell BK173.out 13).trans rfl; have hcz26_14 : w25.cell? ⟨gb173, 14, none⟩ = some (.int .i64 0) := (blk_cell BK173.out 14).trans rfl; have hcz26_15 : w25.cell? ⟨gb173, 15, none⟩ = some (.bool false) := (blk_cell BK173.out 15).trans rfl; have hcz26_16 : w25.cell? ⟨gb173, 16, none⟩ = some (.int .i64 0) := (blk_cell BK173.out 16).trans rfl; have hcz26_17 : w25.cell? ⟨gb173, 17, none⟩ = some (.bool false) := (blk_cell BK173.out 17).trans rfl; have hcz26_18 : w25.cell? ⟨gb173, 18, none⟩ = some (.int .i64 0) := (blk_cell BK173.out 18).trans rfl; have hcz26_19 : w25.cell? ⟨gb173, 19, none⟩ = some (.bool false) := (blk_cell BK173.out 19).trans rfl; have hcz26_20 : w25.cell? ⟨gb173, 20, none⟩ = some (.int .i64 0) := (blk_cell BK173.out 20).trans rfl; have hfz26_0 := blk_frozen BK173.out 0; have hfz26_1 := blk_frozen BK173.out 1; have hfz26_2 := blk_frozen BK173.out 2; have hfz26_3 := blk_frozen BK173.out 3; have hfz26_4 := blk_frozen BK173.out 4; have hfz26_5 := blk_frozen BK173.out 5; have hfz26_6 := blk_frozen BK173.out 6; have hfz26_7 := blk_frozen BK173.out 7; have hfz26_8 := blk_frozen BK173.out 8; have hfz26_9 := blk_frozen BK173.out 9; have hfz26_10 := blk_frozen BK173.out 10; have hfz26_11 := blk_frozen BK173.out 11; have hfz26_12 := blk_frozen BK173.out 12; have hfz26_13 := blk_frozen BK173.out 13; have hfz26_14 := blk_frozen BK173.out 14; have hfz26_15 := blk_frozen BK173.out 15; have hfz26_16 := blk_frozen BK173.out 16; have hfz26_17 := blk_frozen BK173.out 17; have hfz26_18 := blk_frozen BK173.out 18; have hfz26_19 := blk_frozen BK173.out 19; have hfz26_20 := blk_frozen BK173.out 20) | (go_at_call 11; (with_reducible refine (head_All.calls k _ _ l1 (⟨#[69, 120, 112, 105, 114, 101, 115]⟩ : ByteArray) t177 _ ?side1 ?side2 A23.out).mono ?_); (case side1 => exact Kd.C_below HR1.out (by repeat (first | (with_reducible first | exact HB.out | apply below_alloc | apply pw_below_drewN | apply below_drew1 | refine below_set ?_ GE173.out) | exact HB.out))); (case side2 => exact HC1.out); rintro e w27 ⟨v178, rfl, ho0, hb⟩; have n0_ := Aside0.mk (Kd.R_lower ho0 (below_size (by repeat (first | (with_reducible first | exact HB.out | apply below_alloc | apply pw_below_drewN | apply below_drew1 | refine below_set ?_ GE173.out) | exact HB.out)))); have n1_ := Aside0.mk (blk_below (g := gb173) (o := .cells #[.bool t152, .bool t153, .bool t154, .bool t155, .bool t156, .bool t157, .bool t158, .bool t159, .bool t160, .bool t161, .bool t162, .bool false, .int .i64 t164, .bool t165, .int .i64 t166, .bool t167, .int .i64 t168, .bool t169, .int .i64 t170, .bool t171, .int .i64 t172] 35 (0, 0)) BK173.out hb); have n2_ := Aside0.mk (below_step (by repeat (first | (with_reducible first | exact HB.out | apply below_alloc | apply pw_below_drewN | apply below_drew1 | refine below_set ?_ GE173.out) | exact HB.out)) hb); clear BK173; clear HB; have HO179 := n0_; have BK173 := n1_; have HB := n2_; clear n0_ n1_ n2_; (try clear hb); (try clear hb2); (try clear hk); (try clear hi); (try clear ho0); obtain ⟨Ao28, co28, eo28⟩ := Kd.R_slice HO179.out; subst eo28))
      go_ret
      exact ⟨by first | rfl | (simp [errW_none, errW_some] <;> rfl) | (simp [*, errW_none, errW_some] <;> rfl), by repeat (first | (with_reducible first | exact HB.out | apply below_alloc | apply pw_below_drewN | apply below_drew1 | refine below_set ?_ GE173.out) | exact HB.out)⟩

end Go.Proofs.YtbnlglfddglceaaDoor.Q
