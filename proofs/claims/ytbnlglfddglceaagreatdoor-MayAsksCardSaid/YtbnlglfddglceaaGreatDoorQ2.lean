-- Written by a program of this session's (wip/xprint.py), out of the seat's translation.
import Derived.Test.YtbnlglfddglceaaGreatDoorQ0
import Derived.Test.YtbnlglfddglceaaGreatDoorQ1
import Derived.Test.YtbnlglfddglceaaGreatDoorSh
namespace Go.Proofs.YtbnlglfddglceaaGreatDoor.Q
open Go.RowKit Go.Proofs.YtbnlglfddglceaaGreatDoorW.PrintWords Go.Proofs.YtbnlglfddglceaaGreatDoorW.PrintLast Go.Proofs.YtbnlglfddglceaaGreatDoorW.PrintMore
open Go.Proofs.YtbnlglfddglceaaGreatDoor.Own (Y Z sA sB sC)
open Go.Proofs.YtbnlglfddglceaaGreatDoor.Sh
attribute [local go_sem] max2_int min2_int max_two min_two max_three min_three max_four min_four   -- for this text's walks alone
set_option linter.unusedVariables false
set_option linter.unusedSimpArgs false
/-! ### head_May: function 19 -/
def head_May.l0 : Nat → List (S56) → List (S56) → Int → Int → Option (Bool)
 | 0, _, _, _, _ => none
 | k + 1, x0, x5, x6, x7 => if x7 < x6 then (if 0 ≤ x7 then (if x7 < (x5.length : Int) then ((head_Name.f k ((rd_T56 x5 x7).f0)).bind fun t113 => (if t113 = true then ((head_Value.f k ((rd_T56 x5 x7).f1)).bind fun t114 => (if t114 = true then (head_May.l0 k x0 x5 x6 (wrap64 (x7 + 1))) else (some false))) else (some false))) else (none)) else (none)) else (some (decide ((x0.length : Int) ≤ 64)))
def head_May.f (k : Nat) (l0 : List (S56)) : Option (Bool) := head_May.l0 k l0 l0 (l0.length : Int) 0
theorem head_May.mono_l : ∀ k, (∀ y0 y1 y2 y3, LeO (head_May.l0 k y0 y1 y2 y3) (head_May.l0 (k + 1) y0 y1 y2 y3))
 | 0 => fun _ _ _ _ r h => by simp [head_May.l0] at h
 | k + 1 => by
  have ih0 := head_May.mono_l k
  ·intro y0 y1 y2 y3
   unfold head_May.l0
   repeat' first
   | (with_reducible exact ih0 _ _ _ _)
   | (with_reducible exact head_Name.mono _ _)
   | (with_reducible exact head_Value.mono _ _)
   | (with_reducible exact LeO.refl _)
   | (with_reducible exact LeO.none _)
   | (with_reducible refine LeO.ite ?_ ?_)
   | (with_reducible refine LeO.bind ?_ (fun _ => ?_))
   | exact ih0 _ _ _ _
   | exact head_Name.mono _ _
   | exact head_Value.mono _ _
   | exact LeO.none _
   | refine LeO.ite ?_ ?_
   | refine LeO.bind ?_ (fun _ => ?_)
theorem head_May.mono : ∀ a0 k, LeO (head_May.f k a0) (head_May.f (k + 1) a0) := by
 intro a0 k;have ih0 := head_May.mono_l k
 unfold head_May.f
 repeat' first
   | (with_reducible exact ih0 _ _ _ _)
   | (with_reducible exact head_Name.mono _ _)
   | (with_reducible exact head_Value.mono _ _)
   | (with_reducible exact LeO.refl _)
   | (with_reducible exact LeO.none _)
   | (with_reducible refine LeO.ite ?_ ?_)
   | (with_reducible refine LeO.bind ?_ (fun _ => ?_))
   | exact ih0 _ _ _ _
   | exact head_Name.mono _ _
   | exact head_Value.mono _ _
   | exact LeO.none _
   | refine LeO.ite ?_ ?_
   | refine LeO.bind ?_ (fun _ => ?_)
set_option maxHeartbeats 2000000 in
set_option maxRecDepth 100000 in
theorem head_May.calls (k : Nat) (A0 : Option Addr) (c0 : Nat) (l0 : List (S56)) (r : Bool) (w : World) (hr0 : Kd.C k56 w A0 l0.length l0) (hc0 : l0.length ≤ c0) (h : head_May.f k l0 = some r) :
  Calls Tryz.prog 19 #[.slice A0 l0.length c0] w fun e w' => e = .returned (.bool r) ∧ Below w.heap.size w w' := by
 have hu56 := Tryz.underlying56;have HR0 := am hr0;have HC0 := am hc0;clear hr0 hc0;have HB := am (Below.refl w.heap.size w);have H : (head_May.l0 k l0 l0 (l0.length : Int) 0) = some r := h;clear h;have H' := am H;clear H;go_enter Tryz.func19, Tryz.ntmps19;go_wp2;go_loopg [7] k (fun kq v7 w' => ∃ (x7_1 : Int), v7 = .int .i64 x7_1 ∧ Aside0 (head_May.l0 kq l0 l0 (l0.length : Int) x7_1 = some r) ∧ Aside0 (kq ≤ k) ∧ Aside0 (Below w.heap.size w w'))
 case atStart => exact ⟨(0), (by first | rfl | (simp; done) | (simp [*]; done)), H', ⟨Nat.le_refl _⟩, ⟨hA HB.out⟩⟩
 case round =>
  clear H';obtain ⟨x7_1, rfl, HA, HK1, HB⟩ := hrel
  cases gk with
  | zero => exact absurd HA.out (by simp [head_May.l0])
  | succ k1 =>
   have H := HA.out;clear HA;simp only [head_May.l0] at H
   by_cases c2 : x7_1 < (l0.length : Int)
   ·rw [if_pos c2] at H
    have c2b0 : decide (x7_1 < (l0.length : Int)) = true := decide_eq_true c2;clear c2
    by_cases c3 : 0 ≤ x7_1
    ·rw [if_pos c3] at H
     have c3b0 : decide (0 ≤ x7_1) = true := decide_eq_true c3;clear c3
     by_cases c4 : x7_1 < (l0.length : Int)
     ·rw [if_pos c4] at H
      have c4b0 : decide (x7_1 < (l0.length : Int)) = true := decide_eq_true c4;clear c4;replace H := Option.bind_eq_some_iff.mp H;obtain ⟨t113, A50, H⟩ := H;replace H : (if t113 = true then ((head_Value.f k1 ((rd_T56 l0 x7_1).f1)).bind fun t114 => (if t114 = true then (head_May.l0 k1 l0 l0 (l0.length : Int) (wrap64 (x7_1 + 1))) else (some false))) else (some false)) = some r := H;have A5 := am A50;clear A50
      by_cases c6 : t113 = true
      ·subst c6
       (have H1 : ((head_Value.f k1 ((rd_T56 l0 x7_1).f1)).bind fun t114 => (if t114 = true then (head_May.l0 k1 l0 l0 (l0.length : Int) (wrap64 (x7_1 + 1))) else (some false))) = some r := by rw [if_pos rfl] at H; exact H);clear H;have H := H1;clear H1;replace H := Option.bind_eq_some_iff.mp H;obtain ⟨t114, A70, H⟩ := H;replace H : (if t114 = true then (head_May.l0 k1 l0 l0 (l0.length : Int) (wrap64 (x7_1 + 1))) else (some false)) = some r := H;have A7 := am A70;clear A70
       by_cases c8 : t114 = true
       ·subst c8
        (have H1 : (head_May.l0 k1 l0 l0 (l0.length : Int) (wrap64 (x7_1 + 1))) = some r := by rw [if_pos rfl] at H; exact H);clear H;have H := H1;clear H1;have H' := am H;clear H;have p111 : 0 ≤ (x7_1 : Int) := of_decide_eq_true (by first | (with_reducible assumption) | assumption);have q111 : x7_1 < (l0.length : Int) := of_decide_eq_true (by first | (with_reducible assumption) | assumption);obtain ⟨ad111, e111, hx111_0, hx111_1⟩ := at_T56 HR0.out x7_1 p111 q111
        cases e111
        replace hx111_0 := (HB.out.cell (World.block_lt_of_cell? w _ hx111_0)).trans hx111_0;replace hx111_1 := (HB.out.cell (World.block_lt_of_cell? w _ hx111_1)).trans hx111_1;replace p111 := eq_true p111;replace q111 := eq_true q111;go_wp2_with (first | ((with_reducible refine gate_dst (N:=4) rfl ?_); refine box_event ?hg (N:=4) ?hd (cs := #[.string (⟨#[]⟩ : ByteArray), .string (⟨#[]⟩ : ByteArray)]) (t:=56) ?hr ?_; (case hd => rfl); (case hg => rfl); (case hr => first | (go_simp; done) | (go_simp; rfl)); intro gb112 hg w9 hbox hb; have n0_ := am (below_step (hA HB.out) hb); have n1_ := am (hbox); have n2_ := am ((by rw [hg]; exact (below_size (hA HB.out)) : w.heap.size ≤ gb112)); have n3_ := am ((by rw [hg]; exact (below_size (hA HB.out)) : w.heap.size ≤ gb112)); clear HB; have HB := n0_; have BK112 := n1_; have GW112 := n2_; have GE112 := n3_; clear n0_ n1_ n2_ n3_; clear hb hbox hg; have hcz10_0 := bC BK112.out 0 rfl; have hcz10_1 := bC BK112.out 1 rfl; have hfz10_0 := blk_frozen BK112.out 0; have hfz10_1 := blk_frozen BK112.out 1) | ((with_reducible refine gate_callee (f:=18) rfl ?_); refine goesL_ (some 13) rfl rfl Tryz.func18 (by kernel_rfl) rfl #[.string ((rd_T56 l0 x7_1).f0)] rfl (by (try simp only [List.map_toArray, List.map_cons, List.map_nil]); first | done | rfl | (simp only [List.length_drop, List.length_take]; rfl)) ?_; (with_reducible refine (head_Name.calls k1 ((rd_T56 l0 x7_1).f0) true _ A5.out).mono ?_); rintro e w' ⟨rfl, ⟨nd, rfl⟩⟩; refine ⟨_, rfl, ?_⟩) | (go_at_call 35; (with_reducible refine (head_Value.calls k1 ((rd_T56 l0 x7_1).f1) true _ A7.out).mono ?_); rintro e w11 ⟨rfl, hb⟩; have n0_ := am (blk_below (g:=gb112) (o:=.cells #[.string ((rd_T56 l0 x7_1).f0), .string ((rd_T56 l0 x7_1).f1)] 56 (0, 0)) (by (with_reducible repeat (first | refine blk_drewN ?_ _ | refine blk_drew ?_ | refine blk_alloc ?_ _)); refine blk_put (cs := #[.string ((rd_T56 l0 x7_1).f0), .string (⟨#[]⟩ : ByteArray)]) ?_ 1 _ rfl; (with_reducible repeat (first | refine blk_drewN ?_ _ | refine blk_drew ?_ | refine blk_alloc ?_ _)); refine blk_put (cs := #[.string (⟨#[]⟩ : ByteArray), .string (⟨#[]⟩ : ByteArray)]) ?_ 0 _ rfl; (with_reducible repeat (first | refine blk_drewN ?_ _ | refine blk_drew ?_ | refine blk_alloc ?_ _)); exact BK112.out) hb); have n1_ := am (below_step (hA1 HB.out GE112.out) hb); clear BK112; clear HB; have BK112 := n0_; have HB := n1_; clear n0_ n1_; (try clear hb); (try clear hb2); (try clear hk); (try clear hi)));go_roundg k1
        case measure => have := HK1.out; omega
        case rel => exact ⟨(wrap64 (x7_1 + 1)), (by first | rfl | (simp; done) | (simp [*]; done)), H', ⟨by have := HK1.out; omega⟩, ⟨hA1 HB.out GE112.out⟩⟩
       ·replace c8 := Bool.eq_false_iff.mpr c8
        subst c8;(have H1 : (some false) = some r := by rw [if_neg (show ¬ (false = true) by decide)] at H; exact H);clear H;have H := H1;clear H1;obtain rfl := Option.some.inj H;have p111 : 0 ≤ (x7_1 : Int) := of_decide_eq_true (by first | (with_reducible assumption) | assumption);have q111 : x7_1 < (l0.length : Int) := of_decide_eq_true (by first | (with_reducible assumption) | assumption);obtain ⟨ad111, e111, hx111_0, hx111_1⟩ := at_T56 HR0.out x7_1 p111 q111
        cases e111
        replace hx111_0 := (HB.out.cell (World.block_lt_of_cell? w _ hx111_0)).trans hx111_0;replace hx111_1 := (HB.out.cell (World.block_lt_of_cell? w _ hx111_1)).trans hx111_1;replace p111 := eq_true p111;replace q111 := eq_true q111;go_wp2_with (first | ((with_reducible refine gate_dst (N:=4) rfl ?_); refine box_event ?hg (N:=4) ?hd (cs := #[.string (⟨#[]⟩ : ByteArray), .string (⟨#[]⟩ : ByteArray)]) (t:=56) ?hr ?_; (case hd => rfl); (case hg => rfl); (case hr => first | (go_simp; done) | (go_simp; rfl)); intro gb112 hg w12 hbox hb; have n0_ := am (below_step (hA HB.out) hb); have n1_ := am (hbox); have n2_ := am ((by rw [hg]; exact (below_size (hA HB.out)) : w.heap.size ≤ gb112)); have n3_ := am ((by rw [hg]; exact (below_size (hA HB.out)) : w.heap.size ≤ gb112)); clear HB; have HB := n0_; have BK112 := n1_; have GW112 := n2_; have GE112 := n3_; clear n0_ n1_ n2_ n3_; clear hb hbox hg; have hcz13_0 := bC BK112.out 0 rfl; have hcz13_1 := bC BK112.out 1 rfl; have hfz13_0 := blk_frozen BK112.out 0; have hfz13_1 := blk_frozen BK112.out 1) | ((with_reducible refine gate_callee (f:=18) rfl ?_); refine goesL_ (some 13) rfl rfl Tryz.func18 (by kernel_rfl) rfl #[.string ((rd_T56 l0 x7_1).f0)] rfl (by (try simp only [List.map_toArray, List.map_cons, List.map_nil]); first | done | rfl | (simp only [List.length_drop, List.length_take]; rfl)) ?_; (with_reducible refine (head_Name.calls k1 ((rd_T56 l0 x7_1).f0) true _ A5.out).mono ?_); rintro e w' ⟨rfl, ⟨nd, rfl⟩⟩; refine ⟨_, rfl, ?_⟩) | (go_at_call 35; (with_reducible refine (head_Value.calls k1 ((rd_T56 l0 x7_1).f1) false _ A7.out).mono ?_); rintro e w14 ⟨rfl, hb⟩; have n0_ := am (blk_below (g:=gb112) (o:=.cells #[.string ((rd_T56 l0 x7_1).f0), .string ((rd_T56 l0 x7_1).f1)] 56 (0, 0)) (by (with_reducible repeat (first | refine blk_drewN ?_ _ | refine blk_drew ?_ | refine blk_alloc ?_ _)); refine blk_put (cs := #[.string ((rd_T56 l0 x7_1).f0), .string (⟨#[]⟩ : ByteArray)]) ?_ 1 _ rfl; (with_reducible repeat (first | refine blk_drewN ?_ _ | refine blk_drew ?_ | refine blk_alloc ?_ _)); refine blk_put (cs := #[.string (⟨#[]⟩ : ByteArray), .string (⟨#[]⟩ : ByteArray)]) ?_ 0 _ rfl; (with_reducible repeat (first | refine blk_drewN ?_ _ | refine blk_drew ?_ | refine blk_alloc ?_ _)); exact BK112.out) hb); have n1_ := am (below_step (hA1 HB.out GE112.out) hb); clear BK112; clear HB; have BK112 := n0_; have HB := n1_; clear n0_ n1_; (try clear hb); (try clear hb2); (try clear hk); (try clear hi)));go_ret;exact ⟨by first | rfl | (simp [errW_none, errW_some] <;> rfl) | (simp [*, errW_none, errW_some] <;> rfl), by repeat (first | (with_reducible first | exact HB.out | apply below_alloc | apply pw_below_drewN | apply below_drew1 | refine below_set ?_ GE112.out) | exact HB.out)⟩
      ·replace c6 := Bool.eq_false_iff.mpr c6
       subst c6;(have H1 : (some false) = some r := by rw [if_neg (show ¬ (false = true) by decide)] at H; exact H);clear H;have H := H1;clear H1;obtain rfl := Option.some.inj H;have p111 : 0 ≤ (x7_1 : Int) := of_decide_eq_true (by first | (with_reducible assumption) | assumption);have q111 : x7_1 < (l0.length : Int) := of_decide_eq_true (by first | (with_reducible assumption) | assumption);obtain ⟨ad111, e111, hx111_0, hx111_1⟩ := at_T56 HR0.out x7_1 p111 q111
       cases e111
       replace hx111_0 := (HB.out.cell (World.block_lt_of_cell? w _ hx111_0)).trans hx111_0;replace hx111_1 := (HB.out.cell (World.block_lt_of_cell? w _ hx111_1)).trans hx111_1;replace p111 := eq_true p111;replace q111 := eq_true q111;go_wp2_with (first | ((with_reducible refine gate_dst (N:=4) rfl ?_); refine box_event ?hg (N:=4) ?hd (cs := #[.string (⟨#[]⟩ : ByteArray), .string (⟨#[]⟩ : ByteArray)]) (t:=56) ?hr ?_; (case hd => rfl); (case hg => rfl); (case hr => first | (go_simp; done) | (go_simp; rfl)); intro gb112 hg w15 hbox hb; have n0_ := am (below_step (hA HB.out) hb); have n1_ := am (hbox); have n2_ := am ((by rw [hg]; exact (below_size (hA HB.out)) : w.heap.size ≤ gb112)); have n3_ := am ((by rw [hg]; exact (below_size (hA HB.out)) : w.heap.size ≤ gb112)); clear HB; have HB := n0_; have BK112 := n1_; have GW112 := n2_; have GE112 := n3_; clear n0_ n1_ n2_ n3_; clear hb hbox hg; have hcz16_0 := bC BK112.out 0 rfl; have hcz16_1 := bC BK112.out 1 rfl; have hfz16_0 := blk_frozen BK112.out 0; have hfz16_1 := blk_frozen BK112.out 1) | ((with_reducible refine gate_callee (f:=18) rfl ?_); refine goesL_ (some 13) rfl rfl Tryz.func18 (by kernel_rfl) rfl #[.string ((rd_T56 l0 x7_1).f0)] rfl (by (try simp only [List.map_toArray, List.map_cons, List.map_nil]); first | done | rfl | (simp only [List.length_drop, List.length_take]; rfl)) ?_; (with_reducible refine (head_Name.calls k1 ((rd_T56 l0 x7_1).f0) false _ A5.out).mono ?_); rintro e w' ⟨rfl, ⟨nd, rfl⟩⟩; refine ⟨_, rfl, ?_⟩));go_ret;exact ⟨by first | rfl | (simp [errW_none, errW_some] <;> rfl) | (simp [*, errW_none, errW_some] <;> rfl), by repeat (first | (with_reducible first | exact HB.out | apply below_alloc | apply pw_below_drewN | apply below_drew1 | refine below_set ?_ GE112.out) | exact HB.out)⟩
     ·rw [if_neg c4] at H;exact absurd H (by simp)
    ·rw [if_neg c3] at H;exact absurd H (by simp)
   ·rw [if_neg c2] at H;have c2b0 : decide (x7_1 < (l0.length : Int)) = false := decide_eq_false c2;clear c2;obtain rfl := Option.some.inj H;go_wp2;go_ret;exact ⟨by first | rfl | (simp [errW_none, errW_some] <;> rfl) | (simp [*, errW_none, errW_some] <;> rfl), by repeat (first | (with_reducible first | exact HB.out | apply below_alloc | apply pw_below_drewN | apply below_drew1) | exact HB.out)⟩
/-! ### may_Request: function 7 -/
def may_Request.f (k : Nat) (a0_0 : ByteArray) (a0_1 : ByteArray) (a0_2 : ByteArray) (l0_3 : List (S56)) : Option (Bool) := (head_Name.f k a0_1).bind fun t116 => (if t116 = true then ((head_May.f k l0_3).bind fun t117 => (if t117 = true then (if (a0_0.size : Int) ≤ 4000 then (some (decide ((a0_2.size : Int) ≤ 4000))) else (some false)) else (some false))) else (some false))
theorem may_Request.mono : ∀ a0 a1 a2 a3 k, LeO (may_Request.f k a0 a1 a2 a3) (may_Request.f (k + 1) a0 a1 a2 a3) := by
 intro a0 a1 a2 a3 k
 unfold may_Request.f
 repeat' first
   | (with_reducible exact head_May.mono _ _)
   | (with_reducible exact head_Name.mono _ _)
   | (with_reducible exact LeO.refl _)
   | (with_reducible exact LeO.none _)
   | (with_reducible refine LeO.ite ?_ ?_)
   | (with_reducible refine LeO.bind ?_ (fun _ => ?_))
   | exact head_May.mono _ _
   | exact head_Name.mono _ _
   | exact LeO.none _
   | refine LeO.ite ?_ ?_
   | refine LeO.bind ?_ (fun _ => ?_)
set_option maxHeartbeats 2000000 in
set_option maxRecDepth 100000 in
theorem may_Request.calls (k : Nat) (a0_0 : ByteArray) (a0_1 : ByteArray) (a0_2 : ByteArray) (A0_3 : Option Addr) (c0_3 : Nat) (l0_3 : List (S56)) (r : Bool) (w : World) (hr0_3 : Kd.C k56 w A0_3 l0_3.length l0_3) (hc0_3 : l0_3.length ≤ c0_3) (h : may_Request.f k a0_0 a0_1 a0_2 l0_3 = some r) :
  Calls Tryz.prog 7 #[.agg #[.string a0_0, .string a0_1, .string a0_2, .slice A0_3 l0_3.length c0_3]] w fun e w' => e = .returned (.bool r) ∧ Below w.heap.size w w' := by
 have hu24 := Tryz.underlying24;have HR0_3 := am hr0_3;have HC0_3 := am hc0_3;clear hr0_3 hc0_3;have HB := am (Below.refl w.heap.size w);have H : ((head_Name.f k a0_1).bind fun t116 => (if t116 = true then ((head_May.f k l0_3).bind fun t117 => (if t117 = true then (if (a0_0.size : Int) ≤ 4000 then (some (decide ((a0_2.size : Int) ≤ 4000))) else (some false)) else (some false))) else (some false))) = some r := h;clear h;replace H := Option.bind_eq_some_iff.mp H;obtain ⟨t116, A20, H⟩ := H;replace H : (if t116 = true then ((head_May.f k l0_3).bind fun t117 => (if t117 = true then (if (a0_0.size : Int) ≤ 4000 then (some (decide ((a0_2.size : Int) ≤ 4000))) else (some false)) else (some false))) else (some false)) = some r := H;have A2 := am A20;clear A20
 by_cases c3 : t116 = true
 ·subst c3
  (have H1 : ((head_May.f k l0_3).bind fun t117 => (if t117 = true then (if (a0_0.size : Int) ≤ 4000 then (some (decide ((a0_2.size : Int) ≤ 4000))) else (some false)) else (some false))) = some r := by rw [if_pos rfl] at H; exact H);clear H;have H := H1;clear H1;replace H := Option.bind_eq_some_iff.mp H;obtain ⟨t117, A40, H⟩ := H;replace H : (if t117 = true then (if (a0_0.size : Int) ≤ 4000 then (some (decide ((a0_2.size : Int) ≤ 4000))) else (some false)) else (some false)) = some r := H;have A4 := am A40;clear A40
  by_cases c5 : t117 = true
  ·subst c5
   (have H1 : (if (a0_0.size : Int) ≤ 4000 then (some (decide ((a0_2.size : Int) ≤ 4000))) else (some false)) = some r := by rw [if_pos rfl] at H; exact H);clear H;have H := H1;clear H1
   by_cases c6 : (a0_0.size : Int) ≤ 4000
   ·rw [if_pos c6] at H;have c6b0 : decide ((a0_0.size : Int) ≤ 4000) = true := decide_eq_true c6;have c6b1 : decide (a0_0.size ≤ 4000) = true := decide_eq_true (by omega);clear c6;obtain rfl := Option.some.inj H;go_enter Tryz.func7, Tryz.ntmps7;go_wp2_with (first | ((with_reducible refine gate_dst (N:=1) rfl ?_); (try (refine gate_guard (by rfl) ?_; dsimp only)); refine box_event ?hg (N:=1) ?hd (cs := #[.string a0_0, .string a0_1, .string a0_2, .slice A0_3 l0_3.length c0_3]) (t:=24) ?hr ?_; (case hd => rfl); (case hg => rfl); (case hr => first | (go_simp; done) | (go_simp; rfl)); intro gb115 hg w7 hbox hb; have n0_ := am (below_step (hA HB.out) hb); have n1_ := am (hbox); have n2_ := am ((by rw [hg]; exact (below_size (hA HB.out)) : w.heap.size ≤ gb115)); have n3_ := am ((by rw [hg]; exact (below_size (hA HB.out)) : w.heap.size ≤ gb115)); clear HB; have HB := n0_; have BK115 := n1_; have GW115 := n2_; have GE115 := n3_; clear n0_ n1_ n2_ n3_; clear hb hbox hg; have hcz8_0 := bC BK115.out 0 rfl; have hcz8_1 := bC BK115.out 1 rfl; have hcz8_2 := bC BK115.out 2 rfl; have hcz8_3 := bC BK115.out 3 rfl; have hfz8_0 := blk_frozen BK115.out 0; have hfz8_1 := blk_frozen BK115.out 1; have hfz8_2 := blk_frozen BK115.out 2; have hfz8_3 := blk_frozen BK115.out 3) | ((with_reducible refine gate_callee (f:=18) rfl ?_); refine goesL_ (some 5) rfl rfl Tryz.func18 (by kernel_rfl) rfl #[.string a0_1] rfl (by (try simp only [List.map_toArray, List.map_cons, List.map_nil]); first | done | rfl | (simp only [List.length_drop, List.length_take]; rfl)) ?_; (with_reducible refine (head_Name.calls k a0_1 true _ A2.out).mono ?_); rintro e w' ⟨rfl, ⟨nd, rfl⟩⟩; refine ⟨_, rfl, ?_⟩) | (go_at_call 19; (with_reducible refine (head_May.calls k _ _ l0_3 true _ ?side1 ?side2 A4.out).mono ?_); (case side1 => repeat (first | exact (Kd.C_below HR0_3.out (hA1 HB.out GE115.out)) | (with_reducible refine Kd.C_alloc ?_ _) | (with_reducible refine Kd.C_drewN ?_ _) | (with_reducible refine Kd.C_drew ?_))); (case side2 => exact HC0_3.out); rintro e w9 ⟨rfl, hb⟩; have n0_ := am (blk_below (bA BK115.out) hb); have n1_ := am (below_step (hA1 HB.out GE115.out) hb); clear BK115; clear HB; have BK115 := n0_; have HB := n1_; clear n0_ n1_; (try clear hb); (try clear hb2); (try clear hk); (try clear hi); have hcz10_0 := bC BK115.out 0 rfl; have hcz10_1 := bC BK115.out 1 rfl; have hcz10_2 := bC BK115.out 2 rfl; have hcz10_3 := bC BK115.out 3 rfl; have hfz10_0 := blk_frozen BK115.out 0; have hfz10_1 := blk_frozen BK115.out 1; have hfz10_2 := blk_frozen BK115.out 2; have hfz10_3 := blk_frozen BK115.out 3));go_ret;exact ⟨by first | rfl | (simp [errW_none, errW_some] <;> rfl) | (simp [*, errW_none, errW_some] <;> rfl), by repeat (first | (with_reducible first | exact HB.out | apply below_alloc | apply pw_below_drewN | apply below_drew1 | refine below_set ?_ GE115.out) | exact HB.out)⟩
   ·rw [if_neg c6] at H;have c6b0 : decide ((a0_0.size : Int) ≤ 4000) = false := decide_eq_false c6;have c6b1 : decide (a0_0.size ≤ 4000) = false := decide_eq_false (by omega);clear c6;obtain rfl := Option.some.inj H;go_enter Tryz.func7, Tryz.ntmps7;go_wp2_with (first | ((with_reducible refine gate_dst (N:=1) rfl ?_); (try (refine gate_guard (by rfl) ?_; dsimp only)); refine box_event ?hg (N:=1) ?hd (cs := #[.string a0_0, .string a0_1, .string a0_2, .slice A0_3 l0_3.length c0_3]) (t:=24) ?hr ?_; (case hd => rfl); (case hg => rfl); (case hr => first | (go_simp; done) | (go_simp; rfl)); intro gb115 hg w11 hbox hb; have n0_ := am (below_step (hA HB.out) hb); have n1_ := am (hbox); have n2_ := am ((by rw [hg]; exact (below_size (hA HB.out)) : w.heap.size ≤ gb115)); have n3_ := am ((by rw [hg]; exact (below_size (hA HB.out)) : w.heap.size ≤ gb115)); clear HB; have HB := n0_; have BK115 := n1_; have GW115 := n2_; have GE115 := n3_; clear n0_ n1_ n2_ n3_; clear hb hbox hg; have hcz12_0 := bC BK115.out 0 rfl; have hcz12_1 := bC BK115.out 1 rfl; have hcz12_2 := bC BK115.out 2 rfl; have hcz12_3 := bC BK115.out 3 rfl; have hfz12_0 := blk_frozen BK115.out 0; have hfz12_1 := blk_frozen BK115.out 1; have hfz12_2 := blk_frozen BK115.out 2; have hfz12_3 := blk_frozen BK115.out 3) | ((with_reducible refine gate_callee (f:=18) rfl ?_); refine goesL_ (some 5) rfl rfl Tryz.func18 (by kernel_rfl) rfl #[.string a0_1] rfl (by (try simp only [List.map_toArray, List.map_cons, List.map_nil]); first | done | rfl | (simp only [List.length_drop, List.length_take]; rfl)) ?_; (with_reducible refine (head_Name.calls k a0_1 true _ A2.out).mono ?_); rintro e w' ⟨rfl, ⟨nd, rfl⟩⟩; refine ⟨_, rfl, ?_⟩) | (go_at_call 19; (with_reducible refine (head_May.calls k _ _ l0_3 true _ ?side1 ?side2 A4.out).mono ?_); (case side1 => repeat (first | exact (Kd.C_below HR0_3.out (hA1 HB.out GE115.out)) | (with_reducible refine Kd.C_alloc ?_ _) | (with_reducible refine Kd.C_drewN ?_ _) | (with_reducible refine Kd.C_drew ?_))); (case side2 => exact HC0_3.out); rintro e w13 ⟨rfl, hb⟩; have n0_ := am (blk_below (bA BK115.out) hb); have n1_ := am (below_step (hA1 HB.out GE115.out) hb); clear BK115; clear HB; have BK115 := n0_; have HB := n1_; clear n0_ n1_; (try clear hb); (try clear hb2); (try clear hk); (try clear hi); have hcz14_0 := bC BK115.out 0 rfl; have hcz14_1 := bC BK115.out 1 rfl; have hcz14_2 := bC BK115.out 2 rfl; have hcz14_3 := bC BK115.out 3 rfl; have hfz14_0 := blk_frozen BK115.out 0; have hfz14_1 := blk_frozen BK115.out 1; have hfz14_2 := blk_frozen BK115.out 2; have hfz14_3 := blk_frozen BK115.out 3));go_ret;exact ⟨by first | rfl | (simp [errW_none, errW_some] <;> rfl) | (simp [*, errW_none, errW_some] <;> rfl), by repeat (first | (with_reducible first | exact HB.out | apply below_alloc | apply pw_below_drewN | apply below_drew1 | refine below_set ?_ GE115.out) | exact HB.out)⟩
  ·replace c5 := Bool.eq_false_iff.mpr c5;subst c5;(have H1 : (some false) = some r := by rw [if_neg (show ¬ (false = true) by decide)] at H; exact H);clear H;have H := H1;clear H1;obtain rfl := Option.some.inj H;go_enter Tryz.func7, Tryz.ntmps7;go_wp2_with (first | ((with_reducible refine gate_dst (N:=1) rfl ?_); (try (refine gate_guard (by rfl) ?_; dsimp only)); refine box_event ?hg (N:=1) ?hd (cs := #[.string a0_0, .string a0_1, .string a0_2, .slice A0_3 l0_3.length c0_3]) (t:=24) ?hr ?_; (case hd => rfl); (case hg => rfl); (case hr => first | (go_simp; done) | (go_simp; rfl)); intro gb115 hg w15 hbox hb; have n0_ := am (below_step (hA HB.out) hb); have n1_ := am (hbox); have n2_ := am ((by rw [hg]; exact (below_size (hA HB.out)) : w.heap.size ≤ gb115)); have n3_ := am ((by rw [hg]; exact (below_size (hA HB.out)) : w.heap.size ≤ gb115)); clear HB; have HB := n0_; have BK115 := n1_; have GW115 := n2_; have GE115 := n3_; clear n0_ n1_ n2_ n3_; clear hb hbox hg; have hcz16_0 := bC BK115.out 0 rfl; have hcz16_1 := bC BK115.out 1 rfl; have hcz16_2 := bC BK115.out 2 rfl; have hcz16_3 := bC BK115.out 3 rfl; have hfz16_0 := blk_frozen BK115.out 0; have hfz16_1 := blk_frozen BK115.out 1; have hfz16_2 := blk_frozen BK115.out 2; have hfz16_3 := blk_frozen BK115.out 3) | ((with_reducible refine gate_callee (f:=18) rfl ?_); refine goesL_ (some 5) rfl rfl Tryz.func18 (by kernel_rfl) rfl #[.string a0_1] rfl (by (try simp only [List.map_toArray, List.map_cons, List.map_nil]); first | done | rfl | (simp only [List.length_drop, List.length_take]; rfl)) ?_; (with_reducible refine (head_Name.calls k a0_1 true _ A2.out).mono ?_); rintro e w' ⟨rfl, ⟨nd, rfl⟩⟩; refine ⟨_, rfl, ?_⟩) | (go_at_call 19; (with_reducible refine (head_May.calls k _ _ l0_3 false _ ?side1 ?side2 A4.out).mono ?_); (case side1 => repeat (first | exact (Kd.C_below HR0_3.out (hA1 HB.out GE115.out)) | (with_reducible refine Kd.C_alloc ?_ _) | (with_reducible refine Kd.C_drewN ?_ _) | (with_reducible refine Kd.C_drew ?_))); (case side2 => exact HC0_3.out); rintro e w17 ⟨rfl, hb⟩; have n0_ := am (blk_below (bA BK115.out) hb); have n1_ := am (below_step (hA1 HB.out GE115.out) hb); clear BK115; clear HB; have BK115 := n0_; have HB := n1_; clear n0_ n1_; (try clear hb); (try clear hb2); (try clear hk); (try clear hi)));go_ret;exact ⟨by first | rfl | (simp [errW_none, errW_some] <;> rfl) | (simp [*, errW_none, errW_some] <;> rfl), by repeat (first | (with_reducible first | exact HB.out | apply below_alloc | apply pw_below_drewN | apply below_drew1 | refine below_set ?_ GE115.out) | exact HB.out)⟩
 ·replace c3 := Bool.eq_false_iff.mpr c3;subst c3;(have H1 : (some false) = some r := by rw [if_neg (show ¬ (false = true) by decide)] at H; exact H);clear H;have H := H1;clear H1;obtain rfl := Option.some.inj H;go_enter Tryz.func7, Tryz.ntmps7;go_wp2_with (first | ((with_reducible refine gate_dst (N:=1) rfl ?_); (try (refine gate_guard (by rfl) ?_; dsimp only)); refine box_event ?hg (N:=1) ?hd (cs := #[.string a0_0, .string a0_1, .string a0_2, .slice A0_3 l0_3.length c0_3]) (t:=24) ?hr ?_; (case hd => rfl); (case hg => rfl); (case hr => first | (go_simp; done) | (go_simp; rfl)); intro gb115 hg w18 hbox hb; have n0_ := am (below_step (hA HB.out) hb); have n1_ := am (hbox); have n2_ := am ((by rw [hg]; exact (below_size (hA HB.out)) : w.heap.size ≤ gb115)); have n3_ := am ((by rw [hg]; exact (below_size (hA HB.out)) : w.heap.size ≤ gb115)); clear HB; have HB := n0_; have BK115 := n1_; have GW115 := n2_; have GE115 := n3_; clear n0_ n1_ n2_ n3_; clear hb hbox hg; have hcz19_0 := bC BK115.out 0 rfl; have hcz19_1 := bC BK115.out 1 rfl; have hcz19_2 := bC BK115.out 2 rfl; have hcz19_3 := bC BK115.out 3 rfl; have hfz19_0 := blk_frozen BK115.out 0; have hfz19_1 := blk_frozen BK115.out 1; have hfz19_2 := blk_frozen BK115.out 2; have hfz19_3 := blk_frozen BK115.out 3) | ((with_reducible refine gate_callee (f:=18) rfl ?_); refine goesL_ (some 5) rfl rfl Tryz.func18 (by kernel_rfl) rfl #[.string a0_1] rfl (by (try simp only [List.map_toArray, List.map_cons, List.map_nil]); first | done | rfl | (simp only [List.length_drop, List.length_take]; rfl)) ?_; (with_reducible refine (head_Name.calls k a0_1 false _ A2.out).mono ?_); rintro e w' ⟨rfl, ⟨nd, rfl⟩⟩; refine ⟨_, rfl, ?_⟩));go_ret;exact ⟨by first | rfl | (simp [errW_none, errW_some] <;> rfl) | (simp [*, errW_none, errW_some] <;> rfl), by repeat (first | (with_reducible first | exact HB.out | apply below_alloc | apply pw_below_drewN | apply below_drew1 | refine below_set ?_ GE115.out) | exact HB.out)⟩
/-! ### may_Unsafe: function 11 -/
def may_Unsafe.f (a0 : ByteArray) : Option (Bool) := if a0.toList = ([71, 69, 84] : List UInt8) then (some false) else (if a0.toList = ([72, 69, 65, 68] : List UInt8) then (some false) else (if a0.toList = ([79, 80, 84, 73, 79, 78, 83] : List UInt8) then (some false) else (if a0.toList = ([84, 82, 65, 67, 69] : List UInt8) then (some false) else (some true))))
set_option maxHeartbeats 2000000 in
set_option maxRecDepth 100000 in
theorem may_Unsafe.calls (a0 : ByteArray) (r : Bool) (w : World) (h : may_Unsafe.f a0 = some r) :
  Calls Tryz.prog 11 #[.string a0] w fun e w' => e = .returned (.bool r) ∧ Drawn0 w w' := by
 have H : (if a0.toList = ([71, 69, 84] : List UInt8) then (some false) else (if a0.toList = ([72, 69, 65, 68] : List UInt8) then (some false) else (if a0.toList = ([79, 80, 84, 73, 79, 78, 83] : List UInt8) then (some false) else (if a0.toList = ([84, 82, 65, 67, 69] : List UInt8) then (some false) else (some true))))) = some r := h;clear h
 by_cases c2 : a0.toList = ([71, 69, 84] : List UInt8)
 ·rw [if_pos c2] at H;have c2b0 : (a0.toList == ([71, 69, 84] : List UInt8)) = true := beq_iff_eq.mpr c2;have c2b1 : (a0.toList != ([71, 69, 84] : List UInt8)) = false := bne_eq_false_iff_eq.mpr c2;clear c2;obtain rfl := Option.some.inj H;go_enter Tryz.func11, Tryz.ntmps11;go_wp2;go_ret;exact ⟨by first | rfl | (simp; done) | (simp [*]; done), by repeat (first | exact Drawn0.refl _ | apply Drawn0.step)⟩
 ·rw [if_neg c2] at H
  have c2b0 : (a0.toList == ([71, 69, 84] : List UInt8)) = false := beq_eq_false_iff_ne.mpr c2;have c2b1 : (a0.toList != ([71, 69, 84] : List UInt8)) = true := bne_iff_ne.mpr c2
  by_cases c3 : a0.toList = ([72, 69, 65, 68] : List UInt8)
  ·rw [if_pos c3] at H
   have c3b0 : (a0.toList == ([72, 69, 65, 68] : List UInt8)) = true := beq_iff_eq.mpr c3;have c3b1 : (a0.toList != ([72, 69, 65, 68] : List UInt8)) = false := bne_eq_false_iff_eq.mpr c3;clear c3;obtain rfl := Option.some.inj H
   (try (have e_c2b0 := c2b0; simp only [c3b0] at e_c2b0; simp at e_c2b0))
   (try (have e_c3b0 := c3b0; simp only [c2b0] at e_c3b0; simp at e_c3b0))
   go_enter Tryz.func11, Tryz.ntmps11;go_wp2;go_ret;exact ⟨by first | rfl | (simp; done) | (simp [*]; done), by repeat (first | exact Drawn0.refl _ | apply Drawn0.step)⟩
  ·rw [if_neg c3] at H
   have c3b0 : (a0.toList == ([72, 69, 65, 68] : List UInt8)) = false := beq_eq_false_iff_ne.mpr c3;have c3b1 : (a0.toList != ([72, 69, 65, 68] : List UInt8)) = true := bne_iff_ne.mpr c3
   by_cases c4 : a0.toList = ([79, 80, 84, 73, 79, 78, 83] : List UInt8)
   ·rw [if_pos c4] at H
    have c4b0 : (a0.toList == ([79, 80, 84, 73, 79, 78, 83] : List UInt8)) = true := beq_iff_eq.mpr c4;have c4b1 : (a0.toList != ([79, 80, 84, 73, 79, 78, 83] : List UInt8)) = false := bne_eq_false_iff_eq.mpr c4;clear c4;obtain rfl := Option.some.inj H
    (try (have e_c2b0 := c2b0; simp only [c3b0, c4b0] at e_c2b0; simp at e_c2b0))
    (try (have e_c3b0 := c3b0; simp only [c2b0, c4b0] at e_c3b0; simp at e_c3b0))
    (try (have e_c4b0 := c4b0; simp only [c2b0, c3b0] at e_c4b0; simp at e_c4b0))
    go_enter Tryz.func11, Tryz.ntmps11;go_wp2;go_ret;exact ⟨by first | rfl | (simp; done) | (simp [*]; done), by repeat (first | exact Drawn0.refl _ | apply Drawn0.step)⟩
   ·rw [if_neg c4] at H
    have c4b0 : (a0.toList == ([79, 80, 84, 73, 79, 78, 83] : List UInt8)) = false := beq_eq_false_iff_ne.mpr c4;have c4b1 : (a0.toList != ([79, 80, 84, 73, 79, 78, 83] : List UInt8)) = true := bne_iff_ne.mpr c4
    by_cases c5 : a0.toList = ([84, 82, 65, 67, 69] : List UInt8)
    ·rw [if_pos c5] at H
     have c5b0 : (a0.toList == ([84, 82, 65, 67, 69] : List UInt8)) = true := beq_iff_eq.mpr c5;have c5b1 : (a0.toList != ([84, 82, 65, 67, 69] : List UInt8)) = false := bne_eq_false_iff_eq.mpr c5;clear c5;obtain rfl := Option.some.inj H
     (try (have e_c2b0 := c2b0; simp only [c3b0, c4b0, c5b0] at e_c2b0; simp at e_c2b0))
     (try (have e_c3b0 := c3b0; simp only [c2b0, c4b0, c5b0] at e_c3b0; simp at e_c3b0))
     (try (have e_c4b0 := c4b0; simp only [c2b0, c3b0, c5b0] at e_c4b0; simp at e_c4b0))
     (try (have e_c5b0 := c5b0; simp only [c2b0, c3b0, c4b0] at e_c5b0; simp at e_c5b0))
     go_enter Tryz.func11, Tryz.ntmps11;go_wp2;go_ret;exact ⟨by first | rfl | (simp; done) | (simp [*]; done), by repeat (first | exact Drawn0.refl _ | apply Drawn0.step)⟩
    ·rw [if_neg c5] at H
     have c5b0 : (a0.toList == ([84, 82, 65, 67, 69] : List UInt8)) = false := beq_eq_false_iff_ne.mpr c5;have c5b1 : (a0.toList != ([84, 82, 65, 67, 69] : List UInt8)) = true := bne_iff_ne.mpr c5;obtain rfl := Option.some.inj H
     (try (have e_c2b0 := c2b0; simp only [c3b0, c4b0, c5b0] at e_c2b0; simp at e_c2b0))
     (try (have e_c3b0 := c3b0; simp only [c2b0, c4b0, c5b0] at e_c3b0; simp at e_c3b0))
     (try (have e_c4b0 := c4b0; simp only [c2b0, c3b0, c5b0] at e_c4b0; simp at e_c4b0))
     (try (have e_c5b0 := c5b0; simp only [c2b0, c3b0, c4b0] at e_c5b0; simp at e_c5b0))
     go_enter Tryz.func11, Tryz.ntmps11;go_wp2;go_ret;exact ⟨by first | rfl | (simp; done) | (simp [*]; done), by repeat (first | exact Drawn0.refl _ | apply Drawn0.step)⟩
/-! ### head_Lower: function 44 -/
set_option maxHeartbeats 8000000 in
set_option maxRecDepth 100000 in
theorem head_Lower.own (a0 : ByteArray) (w : World) (hs : a0.size ≤ 9223372036854775807) :
  Calls Tryz.prog 44 #[.string a0] w fun e w' => e = .returned (.string ⟨(a0.data.toList.map Own.lowb).toArray⟩) ∧ Below w.heap.size w w' := by
 have hconv := Lib.run_convert_string_bytes (P:=Tryz.prog) w 9 25 5 a0 Tryz.underlying9 Tryz.underlying25 Tryz.underlying5;have hb0 : Aside0 (Own.BytesAt (Lib.bytesWorld w 5 a0) w.heap.size (Own.lowTo a0 0)) := ⟨Own.bytesAt_conv w 5 a0⟩;have hw0 : Aside0 (Below w.heap.size w (Lib.bytesWorld w 5 a0)) := ⟨Own.below_bytesWorld w 5 a0⟩;go_enter Tryz.func44, Tryz.ntmps44;go_wp2;clear hconv;go_loopw [10] (fun i wr => ∃ n : Nat, i = .int .i64 n ∧ n ≤ a0.size ∧ Aside0 (Own.BytesAt wr w.heap.size (Own.lowTo a0 n)) ∧ Aside0 (Below w.heap.size w wr)) (fun i _ => a0.size - (intOf i).toNat)
 case atStart => exact ⟨0, rfl, by omega, hb0, hw0⟩
 case round =>
  clear hb0 hw0;obtain ⟨n, rfl, hn, hB, hW⟩ := hrel
  by_cases hlt : n < a0.size
  ·have hat := hB.out.at n _ (Own.lowTo_at a0 n hlt)
   have hfr := hB.out.free n (by rw [Own.lowTo_length]; exact hlt);have q1 : decide ((n : Int) < (a0.size : Int)) = true := decide_eq_true (by omega);have p5 := eq_true (show (0 : Int) ≤ (n : Int) by omega);have q5 := eq_true (show (n : Int) < (a0.size : Int) by omega);(have hz : 0 + (n : Int).toNat = n := by omega);(have hup := fun h1 h2 => hB.out.low hlt h1 h2);(have hkeep := fun h => hB.out.keep hlt h);generalize a0.data.toList[n]'hlt = c at *;have hup' := am hup;have hkeep' := am hkeep;clear hup hkeep hB;go_wp2
   ·go_roundw
    case measure => simp [intOf]; omega
    case rel => exact ⟨n + 1, rfl, by omega, ⟨hup'.out (by assumption) (by assumption)⟩, ⟨hW.out.setCell (Nat.le_refl _) _⟩⟩
   ·go_roundw
    case measure => simp [intOf]; omega
    case rel => exact ⟨n + 1, rfl, by omega, ⟨hkeep'.out (by omega)⟩, hW⟩
   ·go_roundw
    case measure => simp [intOf]; omega
    case rel => exact ⟨n + 1, rfl, by omega, ⟨hkeep'.out (by omega)⟩, hW⟩
  ·have q1 : decide ((n : Int) < (a0.size : Int)) = false := decide_eq_false (by omega);(obtain rfl : n = a0.size := by omega);have hback := run_convert_bytes_back (P:=Tryz.prog) wr 25 9 5 ⟨w.heap.size, 0, none⟩ (grownCap w a0.size 0 5) (Own.lowTo a0 a0.size) Tryz.underlying25 Tryz.underlying5 Tryz.underlying9 (fun j hj => hB.out.off j hj);rw [Own.lowTo_length, Own.lowTo_all] at hback;go_wp2;go_ret;exact ⟨rfl, hW.out⟩
def head_Lower.f (a0 : ByteArray) : Option (ByteArray) := if a0.size ≤ 9223372036854775807 then some (Own.low a0) else none
theorem head_Lower.calls (a0 : ByteArray) (r : ByteArray) (w : World) (h : head_Lower.f a0 = some r) :
  Calls Tryz.prog 44 #[.string a0] w fun e w' => e = .returned (.string r) ∧ Below w.heap.size w w' := by
 unfold head_Lower.f at h
 by_cases h1 : a0.size ≤ 9223372036854775807
 ·rw [if_pos h1] at h;obtain rfl := Option.some.inj h;exact head_Lower.own a0 w h1
 ·rw [if_neg h1] at h; cases h
/-! ### head_is: function 41 -/
def head_is.f (a0 : ByteArray) (a1 : ByteArray) : Option (Bool) := (head_Lower.f a0).bind fun t118 => ((head_Lower.f a1).bind fun t119 => (some (t118.toList == t119.toList)))
set_option maxHeartbeats 2000000 in
set_option maxRecDepth 100000 in
theorem head_is.calls (a0 : ByteArray) (a1 : ByteArray) (r : Bool) (w : World) (h : head_is.f a0 a1 = some r) :
  Calls Tryz.prog 41 #[.string a0, .string a1] w fun e w' => e = .returned (.bool r) ∧ Below w.heap.size w w' := by
 have HB := am (Below.refl w.heap.size w);have H : ((head_Lower.f a0).bind fun t118 => ((head_Lower.f a1).bind fun t119 => (some (t118.toList == t119.toList)))) = some r := h;clear h;replace H := Option.bind_eq_some_iff.mp H;obtain ⟨t118, A30, H⟩ := H;replace H : ((head_Lower.f a1).bind fun t119 => (some (t118.toList == t119.toList))) = some r := H;have A3 := am A30;clear A30;replace H := Option.bind_eq_some_iff.mp H;obtain ⟨t119, A40, H⟩ := H;replace H : (some (t118.toList == t119.toList)) = some r := H;have A4 := am A40;clear A40;obtain rfl := Option.some.inj H;go_enter Tryz.func41, Tryz.ntmps41;go_wp2_with (first | ((with_reducible refine gate_callee (f:=44) rfl ?_); refine goesL_ (some 6) rfl rfl Tryz.func44 (by kernel_rfl) rfl #[.string a0] rfl (by (try simp only [List.map_toArray, List.map_cons, List.map_nil]); first | done | rfl | (simp only [List.length_drop, List.length_take]; rfl)) ?_; (with_reducible refine (head_Lower.calls a0 t118 _ A3.out).mono ?_); rintro e w5 ⟨rfl, hb⟩; refine ⟨_, rfl, ?_⟩; have n0_ := am (below_step (hA HB.out) hb); clear HB; have HB := n0_; clear n0_; (try clear hb); (try clear hb2); (try clear hk); (try clear hi)) | ((with_reducible refine gate_callee (f:=44) rfl ?_); refine goesL_ (some 8) rfl rfl Tryz.func44 (by kernel_rfl) rfl #[.string a1] rfl (by (try simp only [List.map_toArray, List.map_cons, List.map_nil]); first | done | rfl | (simp only [List.length_drop, List.length_take]; rfl)) ?_; (with_reducible refine (head_Lower.calls a1 t119 _ A4.out).mono ?_); rintro e w6 ⟨rfl, hb⟩; refine ⟨_, rfl, ?_⟩; have n0_ := am (below_step (hA HB.out) hb); clear HB; have HB := n0_; clear n0_; (try clear hb); (try clear hb2); (try clear hk); (try clear hi)));go_ret;exact ⟨by first | rfl | (simp [errW_none, errW_some] <;> rfl) | (simp [*, errW_none, errW_some] <;> rfl), by repeat (first | (with_reducible first | exact HB.out | apply below_alloc | apply pw_below_drewN | apply below_drew1) | exact HB.out)⟩
/-! ### head_All: function 22 -/
def head_All.l0 : Nat → ByteArray → List ByteArray → List (S56) → Int → Int → Option (List ByteArray)
 | 0, _, _, _, _, _ => none
 | k + 1, x1, x5, x8, x9, x10 => if x10 < x9 then (if 0 ≤ x10 then (if x10 < (x8.length : Int) then ((head_is.f ((rd_T56 x8 x10).f0) x1).bind fun t122 => (if t122 = true then (if x5.length < 8796093022208 then (head_All.l0 k x1 (x5 ++ [(rd_T56 x8 x10).f1]) x8 x9 (wrap64 (x10 + 1))) else (none)) else (head_All.l0 k x1 x5 x8 x9 (wrap64 (x10 + 1))))) else (none)) else (none)) else (some x5)
def head_All.f (k : Nat) (l0 : List (S56)) (a1 : ByteArray) : Option (List ByteArray) := head_All.l0 k a1 ([] : List ByteArray) l0 (l0.length : Int) 0
theorem head_All.mono_l : ∀ k, (∀ y0 y1 y2 y3 y4, LeO (head_All.l0 k y0 y1 y2 y3 y4) (head_All.l0 (k + 1) y0 y1 y2 y3 y4))
 | 0 => fun _ _ _ _ _ r h => by simp [head_All.l0] at h
 | k + 1 => by
  have ih0 := head_All.mono_l k
  ·intro y0 y1 y2 y3 y4
   unfold head_All.l0
   repeat' first
   | (with_reducible exact ih0 _ _ _ _ _)
   | (with_reducible exact LeO.refl _)
   | (with_reducible exact LeO.none _)
   | (with_reducible refine LeO.ite ?_ ?_)
   | (with_reducible refine LeO.bind ?_ (fun _ => ?_))
   | exact ih0 _ _ _ _ _
   | exact LeO.none _
   | refine LeO.ite ?_ ?_
   | refine LeO.bind ?_ (fun _ => ?_)
theorem head_All.mono : ∀ a0 a1 k, LeO (head_All.f k a0 a1) (head_All.f (k + 1) a0 a1) := by
 intro a0 a1 k;have ih0 := head_All.mono_l k
 unfold head_All.f
 repeat' first
   | (with_reducible exact ih0 _ _ _ _ _)
   | (with_reducible exact LeO.refl _)
   | (with_reducible exact LeO.none _)
   | (with_reducible refine LeO.ite ?_ ?_)
   | (with_reducible refine LeO.bind ?_ (fun _ => ?_))
   | exact ih0 _ _ _ _ _
   | exact LeO.none _
   | refine LeO.ite ?_ ?_
   | refine LeO.bind ?_ (fun _ => ?_)
set_option maxHeartbeats 2000000 in
set_option maxRecDepth 100000 in
theorem head_All.calls (k : Nat) (A0 : Option Addr) (c0 : Nat) (l0 : List (S56)) (a1 : ByteArray) (r : List ByteArray) (w : World) (hr0 : Kd.C k56 w A0 l0.length l0) (hc0 : l0.length ≤ c0) (h : head_All.f k l0 a1 = some r) :
  Calls Tryz.prog 22 #[.slice A0 l0.length c0, .string a1] w fun e w' => ∃ v0_ : Value, e = .returned (v0_) ∧ Kd.R Kd.string 9 w' w.heap.size (fun _ => True) v0_ r ∧ Below w.heap.size w w' := by
 have hu56 := Tryz.underlying56;have HR0 := am hr0;have HC0 := am hc0;clear hr0 hc0;have HB := am (Below.refl w.heap.size w);have H : (head_All.l0 k a1 ([] : List ByteArray) l0 (l0.length : Int) 0) = some r := h;clear h;have H' := am H;clear H;go_enter Tryz.func22, Tryz.ntmps22;go_wp2;go_loopg [5, 10] k (fun kq v5 v10 w' => ∃ (x5_1 : List ByteArray) (x10_1 : Int), v10 = .int .i64 x10_1 ∧ Aside0 (head_All.l0 kq a1 x5_1 l0 (l0.length : Int) x10_1 = some r) ∧ Aside0 (kq ≤ k) ∧ Aside0 (Kd.R Kd.string 9 w' w.heap.size (fun _ => True) v5 x5_1) ∧ Aside0 (Below w.heap.size w w'))
 case atStart => exact ⟨(([] : List ByteArray)), (0), (by first | rfl | (simp; done) | (simp [*]; done)), H', ⟨Nat.le_refl _⟩, ⟨by first | exact Kd.R_nil _ _ _ _ _ | exact Kd.N_nil _ _ _ _ _ | exact Kd.V_nil _ _ _ _ _ | exact Kd.Q_nil _ _ _ _ _ | exact Kd.S_nil _ _ _ _ _⟩, ⟨hA HB.out⟩⟩
 case round =>
  clear H';obtain ⟨x5_1, x10_1, rfl, HA, HK1, HO_5, HB⟩ := hrel
  cases gk with
  | zero => exact absurd HA.out (by simp [head_All.l0])
  | succ k1 =>
   have H := HA.out;clear HA;simp only [head_All.l0] at H
   by_cases c3 : x10_1 < (l0.length : Int)
   ·rw [if_pos c3] at H
    have c3b0 : decide (x10_1 < (l0.length : Int)) = true := decide_eq_true c3;clear c3
    by_cases c4 : 0 ≤ x10_1
    ·rw [if_pos c4] at H
     have c4b0 : decide (0 ≤ x10_1) = true := decide_eq_true c4;clear c4
     by_cases c5 : x10_1 < (l0.length : Int)
     ·rw [if_pos c5] at H
      have c5b0 : decide (x10_1 < (l0.length : Int)) = true := decide_eq_true c5;clear c5;replace H := Option.bind_eq_some_iff.mp H;obtain ⟨t122, A60, H⟩ := H;replace H : (if t122 = true then (if x5_1.length < 8796093022208 then (head_All.l0 k1 a1 (x5_1 ++ [(rd_T56 l0 x10_1).f1]) l0 (l0.length : Int) (wrap64 (x10_1 + 1))) else (none)) else (head_All.l0 k1 a1 x5_1 l0 (l0.length : Int) (wrap64 (x10_1 + 1)))) = some r := H;have A6 := am A60;clear A60
      by_cases c7 : t122 = true
      ·subst c7
       (have H1 : (if x5_1.length < 8796093022208 then (head_All.l0 k1 a1 (x5_1 ++ [(rd_T56 l0 x10_1).f1]) l0 (l0.length : Int) (wrap64 (x10_1 + 1))) else (none)) = some r := by rw [if_pos rfl] at H; exact H);clear H;have H := H1;clear H1
       by_cases c8 : x5_1.length < 8796093022208
       ·rw [if_pos c8] at H
        have LMc8 := am c8;clear c8;obtain ⟨y123, hy123⟩ : ∃ y_ : List ByteArray, y_ = (x5_1 ++ [(rd_T56 l0 x10_1).f1]) := ⟨_, rfl⟩;(replace H : (head_All.l0 k1 a1 y123 l0 (l0.length : Int) (wrap64 (x10_1 + 1))) = some r := by first | (rw [hy123]; with_reducible exact H) | (have H2_ := (Option.bind_some _ _).symm.trans H; rw [hy123]; with_reducible exact H2_) | (have H2_ := (Option.bind_some _ _).symm.trans H; with_reducible exact H2_) | with_reducible exact H | (rw [hy123]; exact H) | exact H);have Ny123 := am hy123;clear hy123;have H' := am H;clear H;have p120 : 0 ≤ (x10_1 : Int) := of_decide_eq_true (by first | (with_reducible assumption) | assumption);have q120 : x10_1 < (l0.length : Int) := of_decide_eq_true (by first | (with_reducible assumption) | assumption);obtain ⟨ad120, e120, hx120_0, hx120_1⟩ := at_T56 HR0.out x10_1 p120 q120
        cases e120
        replace hx120_0 := (HB.out.cell (World.block_lt_of_cell? w _ hx120_0)).trans hx120_0;replace hx120_1 := (HB.out.cell (World.block_lt_of_cell? w _ hx120_1)).trans hx120_1;replace p120 := eq_true p120;replace q120 := eq_true q120;go_wp2_with (first | ((with_reducible refine gate_dst (N:=7) rfl ?_); refine box_event ?hg (N:=7) ?hd (cs := #[.string (⟨#[]⟩ : ByteArray), .string (⟨#[]⟩ : ByteArray)]) (t:=56) ?hr ?_; (case hd => rfl); (case hg => rfl); (case hr => first | (go_simp; done) | (go_simp; rfl)); intro gb121 hg w9 hbox hb; have n0_ := am (Kd.R_below (rA HO_5.out) hb); have n1_ := am (below_step (hA HB.out) hb); have n2_ := am (hbox); have n3_ := am ((by rw [hg]; exact (below_size (hA HB.out)) : w.heap.size ≤ gb121)); have n4_ := am ((by rw [hg]; exact (below_size (hA HB.out)) : w.heap.size ≤ gb121)); clear HO_5; clear HB; have HO_5 := n0_; have HB := n1_; have BK121 := n2_; have GW121 := n3_; have GE121 := n4_; clear n0_ n1_ n2_ n3_ n4_; clear hb hbox hg; have hcz10_0 := bC BK121.out 0 rfl; have hcz10_1 := bC BK121.out 1 rfl; have hfz10_0 := blk_frozen BK121.out 0; have hfz10_1 := blk_frozen BK121.out 1) | ((with_reducible refine gate_callee (f:=41) rfl ?_); refine goesL_ (some 17) rfl rfl Tryz.func41 (by kernel_rfl) rfl #[.string ((rd_T56 l0 x10_1).f0), .string a1] rfl (by (try simp only [List.map_toArray, List.map_cons, List.map_nil]); first | done | rfl | (simp only [List.length_drop, List.length_take]; rfl)) ?_; (with_reducible refine (head_is.calls ((rd_T56 l0 x10_1).f0) a1 true _ A6.out).mono ?_); rintro e w11 ⟨rfl, hb⟩; refine ⟨_, rfl, ?_⟩; have n0_ := am (Kd.R_below (by (with_reducible repeat (first | apply Kd.R_alloc | apply Kd.R_drewN | apply Kd.R_drew)); exact (Kd.R_mono (Kd.R_far (p:=⟨gb121, 1, none⟩) (Kd.R_far (p:=⟨gb121, 0, none⟩) (Kd.R_types HO_5.out BK121.out (by decide)) (fun _ hk => hk.2) (.string ((rd_T56 l0 x10_1).f0))) (fun _ hk => hk.2) (.string ((rd_T56 l0 x10_1).f1))) (fun _ h_ => h_.1))) hb); have n1_ := am (blk_below (g:=gb121) (o:=.cells #[.string ((rd_T56 l0 x10_1).f0), .string ((rd_T56 l0 x10_1).f1)] 56 (0, 0)) (by (with_reducible repeat (first | refine blk_drewN ?_ _ | refine blk_drew ?_ | refine blk_alloc ?_ _)); refine blk_put (cs := #[.string ((rd_T56 l0 x10_1).f0), .string (⟨#[]⟩ : ByteArray)]) ?_ 1 _ rfl; (with_reducible repeat (first | refine blk_drewN ?_ _ | refine blk_drew ?_ | refine blk_alloc ?_ _)); refine blk_put (cs := #[.string (⟨#[]⟩ : ByteArray), .string (⟨#[]⟩ : ByteArray)]) ?_ 0 _ rfl; (with_reducible repeat (first | refine blk_drewN ?_ _ | refine blk_drew ?_ | refine blk_alloc ?_ _)); exact BK121.out) hb); have n2_ := am (below_step (hA1 HB.out GE121.out) hb); clear HO_5; clear BK121; clear HB; have HO_5 := n0_; have BK121 := n1_; have HB := n2_; clear n0_ n1_ n2_; (try clear hb); (try clear hb2); (try clear hk); (try clear hi); have hcz12_0 := bC BK121.out 0 rfl; have hcz12_1 := bC BK121.out 1 rfl; have hfz12_0 := blk_frozen BK121.out 0; have hfz12_1 := blk_frozen BK121.out 1) | ((with_reducible refine gate_builtin (b:=.append) (xs := #[.tmp 18, .tmp 21]) rfl ?_); at_builtin; refine Kd.R_append Kd.string (w0 := w) w.heap.size rfl (.tmp 18) (.tmp 21) 35 9 (.string ⟨#[]⟩) 16 rfl Tryz.underlying35 info9 rfl (by decide) (by omega) u5 x5_1 ((rd_T56 l0 x10_1).f1) [.string ((rd_T56 l0 x10_1).f1)] (fun _ => True) (fun _ => False) rfl rfl ?aP (fun _ hk => hk.elim) ?aF ?aO ?aB ?aS ?aL ?_; (case aP => exact rfl); (case aB => exact (hA1 HB.out GE121.out)); (case aF => exact (fun _ _ => trivial)); (case aO => exact (rA HO_5.out)); (case aS => exact (below_size (hA1 HB.out GE121.out))); (case aL => have := LMc8.out; omega); intro v124 w13 ho hb hg hat; rw [← Ny123.out] at ho; have n0_ := am (blk_grown (g:=gb121) (o:=.cells #[.string ((rd_T56 l0 x10_1).f0), .string ((rd_T56 l0 x10_1).f1)] 56 (0, 0)) (bA BK121.out) hg (Kd.R_ne HO_5.out BK121.out (by decide))); have n1_ := am (hb); have n2_ := am (ho); clear BK121; clear HB; clear HO_5; have BK121 := n0_; have HB := n1_; have HO125 := n2_; clear n0_ n1_ n2_; clear ho hb hg hat));go_roundg k1
        case measure => have := HK1.out; omega
        case rel => exact ⟨(y123), (wrap64 (x10_1 + 1)), (by first | rfl | (simp; done) | (simp [*]; done)), H', ⟨by have := HK1.out; omega⟩, ⟨rA HO125.out⟩, ⟨hA1 HB.out GE121.out⟩⟩
       ·rw [if_neg c8] at H;exact absurd H (by simp)
      ·replace c7 := Bool.eq_false_iff.mpr c7
       subst c7;(have H1 : (head_All.l0 k1 a1 x5_1 l0 (l0.length : Int) (wrap64 (x10_1 + 1))) = some r := by rw [if_neg (show ¬ (false = true) by decide)] at H; exact H);clear H;have H := H1;clear H1;have H' := am H;clear H;have p120 : 0 ≤ (x10_1 : Int) := of_decide_eq_true (by first | (with_reducible assumption) | assumption);have q120 : x10_1 < (l0.length : Int) := of_decide_eq_true (by first | (with_reducible assumption) | assumption);obtain ⟨ad120, e120, hx120_0, hx120_1⟩ := at_T56 HR0.out x10_1 p120 q120
       cases e120
       replace hx120_0 := (HB.out.cell (World.block_lt_of_cell? w _ hx120_0)).trans hx120_0;replace hx120_1 := (HB.out.cell (World.block_lt_of_cell? w _ hx120_1)).trans hx120_1;replace p120 := eq_true p120;replace q120 := eq_true q120;go_wp2_with (first | ((with_reducible refine gate_dst (N:=7) rfl ?_); refine box_event ?hg (N:=7) ?hd (cs := #[.string (⟨#[]⟩ : ByteArray), .string (⟨#[]⟩ : ByteArray)]) (t:=56) ?hr ?_; (case hd => rfl); (case hg => rfl); (case hr => first | (go_simp; done) | (go_simp; rfl)); intro gb121 hg w14 hbox hb; have n0_ := am (Kd.R_below (rA HO_5.out) hb); have n1_ := am (below_step (hA HB.out) hb); have n2_ := am (hbox); have n3_ := am ((by rw [hg]; exact (below_size (hA HB.out)) : w.heap.size ≤ gb121)); have n4_ := am ((by rw [hg]; exact (below_size (hA HB.out)) : w.heap.size ≤ gb121)); clear HO_5; clear HB; have HO_5 := n0_; have HB := n1_; have BK121 := n2_; have GW121 := n3_; have GE121 := n4_; clear n0_ n1_ n2_ n3_ n4_; clear hb hbox hg; have hcz15_0 := bC BK121.out 0 rfl; have hcz15_1 := bC BK121.out 1 rfl; have hfz15_0 := blk_frozen BK121.out 0; have hfz15_1 := blk_frozen BK121.out 1) | ((with_reducible refine gate_callee (f:=41) rfl ?_); refine goesL_ (some 17) rfl rfl Tryz.func41 (by kernel_rfl) rfl #[.string ((rd_T56 l0 x10_1).f0), .string a1] rfl (by (try simp only [List.map_toArray, List.map_cons, List.map_nil]); first | done | rfl | (simp only [List.length_drop, List.length_take]; rfl)) ?_; (with_reducible refine (head_is.calls ((rd_T56 l0 x10_1).f0) a1 false _ A6.out).mono ?_); rintro e w16 ⟨rfl, hb⟩; refine ⟨_, rfl, ?_⟩; have n0_ := am (Kd.R_below (by (with_reducible repeat (first | apply Kd.R_alloc | apply Kd.R_drewN | apply Kd.R_drew)); exact (Kd.R_mono (Kd.R_far (p:=⟨gb121, 1, none⟩) (Kd.R_far (p:=⟨gb121, 0, none⟩) (Kd.R_types HO_5.out BK121.out (by decide)) (fun _ hk => hk.2) (.string ((rd_T56 l0 x10_1).f0))) (fun _ hk => hk.2) (.string ((rd_T56 l0 x10_1).f1))) (fun _ h_ => h_.1))) hb); have n1_ := am (blk_below (g:=gb121) (o:=.cells #[.string ((rd_T56 l0 x10_1).f0), .string ((rd_T56 l0 x10_1).f1)] 56 (0, 0)) (by (with_reducible repeat (first | refine blk_drewN ?_ _ | refine blk_drew ?_ | refine blk_alloc ?_ _)); refine blk_put (cs := #[.string ((rd_T56 l0 x10_1).f0), .string (⟨#[]⟩ : ByteArray)]) ?_ 1 _ rfl; (with_reducible repeat (first | refine blk_drewN ?_ _ | refine blk_drew ?_ | refine blk_alloc ?_ _)); refine blk_put (cs := #[.string (⟨#[]⟩ : ByteArray), .string (⟨#[]⟩ : ByteArray)]) ?_ 0 _ rfl; (with_reducible repeat (first | refine blk_drewN ?_ _ | refine blk_drew ?_ | refine blk_alloc ?_ _)); exact BK121.out) hb); have n2_ := am (below_step (hA1 HB.out GE121.out) hb); clear HO_5; clear BK121; clear HB; have HO_5 := n0_; have BK121 := n1_; have HB := n2_; clear n0_ n1_ n2_; (try clear hb); (try clear hb2); (try clear hk); (try clear hi)));go_roundg k1
       case measure => have := HK1.out; omega
       case rel => exact ⟨(x5_1), (wrap64 (x10_1 + 1)), (by first | rfl | (simp; done) | (simp [*]; done)), H', ⟨by have := HK1.out; omega⟩, ⟨rA HO_5.out⟩, ⟨hA1 HB.out GE121.out⟩⟩
     ·rw [if_neg c5] at H;exact absurd H (by simp)
    ·rw [if_neg c4] at H;exact absurd H (by simp)
   ·rw [if_neg c3] at H;have c3b0 : decide (x10_1 < (l0.length : Int)) = false := decide_eq_false c3;clear c3;obtain rfl := Option.some.inj H;go_wp2;go_ret;exact ⟨_, by first | rfl | (simp [errW_none, errW_some] <;> rfl) | (simp [*, errW_none, errW_some] <;> rfl), by (with_reducible repeat (first | apply Kd.R_alloc | apply Kd.R_drewN | apply Kd.R_drew)); exact HO_5.out, by repeat (first | (with_reducible first | exact HB.out | apply below_alloc | apply pw_below_drewN | apply below_drew1) | exact HB.out)⟩
/-! ### may_Plain: function 13 -/
def may_Plain.l0 : Nat → List ByteArray → Int → Int → ByteArray → ByteArray → ByteArray → List (S56) → Option (Bool)
 | 0, _, _, _, _, _, _, _ => none
 | k + 1, x5, x6, x7, x127000, x127001, x127002, x127003 => if x7 < x6 then (if 0 ≤ x7 then (if x7 < (x5.length : Int) then ((head_All.f k x127003 (rdOf ByteArray.empty x5 x7)).bind fun t131 => (if (t131.length : Int) > 0 then (some false) else (may_Plain.l0 k x5 x6 (wrap64 (x7 + 1)) x127000 x127001 x127002 x127003))) else (none)) else (none)) else (some (x127001.toList == ([71, 69, 84] : List UInt8)))
def may_Plain.f (k : Nat) (a0_0 : ByteArray) (a0_1 : ByteArray) (a0_2 : ByteArray) (l0_3 : List (S56)) : Option (Bool) := (some (([(⟨#[82, 97, 110, 103, 101]⟩ : ByteArray), (⟨#[73, 102, 45, 77, 97, 116, 99, 104]⟩ : ByteArray), (⟨#[73, 102, 45, 78, 111, 110, 101, 45, 77, 97, 116, 99, 104]⟩ : ByteArray), (⟨#[73, 102, 45, 77, 111, 100, 105, 102, 105, 101, 100, 45, 83, 105, 110, 99, 101]⟩ : ByteArray), (⟨#[73, 102, 45, 85, 110, 109, 111, 100, 105, 102, 105, 101, 100, 45, 83, 105, 110, 99, 101]⟩ : ByteArray), (⟨#[73, 102, 45, 82, 97, 110, 103, 101]⟩ : ByteArray)] : List ByteArray) : List ByteArray)).bind fun y127 => (may_Plain.l0 k y127 (y127.length : Int) 0 a0_0 a0_1 a0_2 l0_3)
theorem may_Plain.mono_l : ∀ k, (∀ y0 y1 y2 y3 y4 y5 y6, LeO (may_Plain.l0 k y0 y1 y2 y3 y4 y5 y6) (may_Plain.l0 (k + 1) y0 y1 y2 y3 y4 y5 y6))
 | 0 => fun _ _ _ _ _ _ _ r h => by simp [may_Plain.l0] at h
 | k + 1 => by
  have ih0 := may_Plain.mono_l k
  ·intro y0 y1 y2 y3 y4 y5 y6
   unfold may_Plain.l0
   repeat' first
   | (with_reducible exact ih0 _ _ _ _ _ _ _)
   | (with_reducible exact head_All.mono _ _ _)
   | (with_reducible exact LeO.refl _)
   | (with_reducible exact LeO.none _)
   | (with_reducible refine LeO.ite ?_ ?_)
   | (with_reducible refine LeO.bind ?_ (fun _ => ?_))
   | exact ih0 _ _ _ _ _ _ _
   | exact head_All.mono _ _ _
   | exact LeO.none _
   | refine LeO.ite ?_ ?_
   | refine LeO.bind ?_ (fun _ => ?_)
theorem may_Plain.mono : ∀ a0 a1 a2 a3 k, LeO (may_Plain.f k a0 a1 a2 a3) (may_Plain.f (k + 1) a0 a1 a2 a3) := by
 intro a0 a1 a2 a3 k;have ih0 := may_Plain.mono_l k
 unfold may_Plain.f
 repeat' first
   | (with_reducible exact ih0 _ _ _ _ _ _ _)
   | (with_reducible exact head_All.mono _ _ _)
   | (with_reducible exact LeO.refl _)
   | (with_reducible exact LeO.none _)
   | (with_reducible refine LeO.ite ?_ ?_)
   | (with_reducible refine LeO.bind ?_ (fun _ => ?_))
   | exact ih0 _ _ _ _ _ _ _
   | exact head_All.mono _ _ _
   | exact LeO.none _
   | refine LeO.ite ?_ ?_
   | refine LeO.bind ?_ (fun _ => ?_)
set_option maxHeartbeats 2000000 in
set_option maxRecDepth 100000 in
theorem may_Plain.calls (k : Nat) (a0_0 : ByteArray) (a0_1 : ByteArray) (a0_2 : ByteArray) (A0_3 : Option Addr) (c0_3 : Nat) (l0_3 : List (S56)) (r : Bool) (w : World) (hr0_3 : Kd.C k56 w A0_3 l0_3.length l0_3) (hc0_3 : l0_3.length ≤ c0_3) (h : may_Plain.f k a0_0 a0_1 a0_2 l0_3 = some r) :
  Calls Tryz.prog 13 #[.agg #[.string a0_0, .string a0_1, .string a0_2, .slice A0_3 l0_3.length c0_3]] w fun e w' => e = .returned (.bool r) ∧ Below w.heap.size w w' := by
 have hu24 := Tryz.underlying24;have HR0_3 := am hr0_3;have HC0_3 := am hc0_3;clear hr0_3 hc0_3;have HB := am (Below.refl w.heap.size w);have H : ((some (([(⟨#[82, 97, 110, 103, 101]⟩ : ByteArray), (⟨#[73, 102, 45, 77, 97, 116, 99, 104]⟩ : ByteArray), (⟨#[73, 102, 45, 78, 111, 110, 101, 45, 77, 97, 116, 99, 104]⟩ : ByteArray), (⟨#[73, 102, 45, 77, 111, 100, 105, 102, 105, 101, 100, 45, 83, 105, 110, 99, 101]⟩ : ByteArray), (⟨#[73, 102, 45, 85, 110, 109, 111, 100, 105, 102, 105, 101, 100, 45, 83, 105, 110, 99, 101]⟩ : ByteArray), (⟨#[73, 102, 45, 82, 97, 110, 103, 101]⟩ : ByteArray)] : List ByteArray) : List ByteArray)).bind fun y127 => (may_Plain.l0 k y127 (y127.length : Int) 0 a0_0 a0_1 a0_2 l0_3)) = some r := h;clear h;obtain ⟨y127, hy127⟩ : ∃ y_ : List ByteArray, y_ = (([(⟨#[82, 97, 110, 103, 101]⟩ : ByteArray), (⟨#[73, 102, 45, 77, 97, 116, 99, 104]⟩ : ByteArray), (⟨#[73, 102, 45, 78, 111, 110, 101, 45, 77, 97, 116, 99, 104]⟩ : ByteArray), (⟨#[73, 102, 45, 77, 111, 100, 105, 102, 105, 101, 100, 45, 83, 105, 110, 99, 101]⟩ : ByteArray), (⟨#[73, 102, 45, 85, 110, 109, 111, 100, 105, 102, 105, 101, 100, 45, 83, 105, 110, 99, 101]⟩ : ByteArray), (⟨#[73, 102, 45, 82, 97, 110, 103, 101]⟩ : ByteArray)] : List ByteArray)) := ⟨_, rfl⟩;(replace H : (may_Plain.l0 k y127 (y127.length : Int) 0 a0_0 a0_1 a0_2 l0_3) = some r := by first | (rw [hy127]; with_reducible exact H) | (have H2_ := (Option.bind_some _ _).symm.trans H; rw [hy127]; with_reducible exact H2_) | (have H2_ := (Option.bind_some _ _).symm.trans H; with_reducible exact H2_) | with_reducible exact H | (rw [hy127]; exact H) | exact H);have Ny127 := am hy127;clear hy127;have H' := am H;clear H;go_enter Tryz.func13, Tryz.ntmps13;go_wp2_with (first | ((with_reducible refine gate_dst (N:=1) rfl ?_); refine box_event ?hg (N:=1) ?hd (cs := #[.string a0_0, .string a0_1, .string a0_2, .slice A0_3 l0_3.length c0_3]) (t:=24) ?hr ?_; (case hd => rfl); (case hg => rfl); (case hr => first | (go_simp; done) | (go_simp; rfl)); intro gb126 hg w2 hbox hb; have n0_ := am (below_step (hA HB.out) hb); have n1_ := am (hbox); have n2_ := am ((by rw [hg]; exact (below_size (hA HB.out)) : w.heap.size ≤ gb126)); have n3_ := am ((by rw [hg]; exact (below_size (hA HB.out)) : w.heap.size ≤ gb126)); clear HB; have HB := n0_; have BK126 := n1_; have GW126 := n2_; have GE126 := n3_; clear n0_ n1_ n2_ n3_; clear hb hbox hg) | ((with_reducible refine gate_dst (N:=5) rfl ?_); refine Kd.R_lit Kd.string _ 9 ?hg (N:=5) ?hd (xs := ([(⟨#[82, 97, 110, 103, 101]⟩ : ByteArray), (⟨#[73, 102, 45, 77, 97, 116, 99, 104]⟩ : ByteArray), (⟨#[73, 102, 45, 78, 111, 110, 101, 45, 77, 97, 116, 99, 104]⟩ : ByteArray), (⟨#[73, 102, 45, 77, 111, 100, 105, 102, 105, 101, 100, 45, 83, 105, 110, 99, 101]⟩ : ByteArray), (⟨#[73, 102, 45, 85, 110, 109, 111, 100, 105, 102, 105, 101, 100, 45, 83, 105, 110, 99, 101]⟩ : ByteArray), (⟨#[73, 102, 45, 82, 97, 110, 103, 101]⟩ : ByteArray)] : List ByteArray)) (inner := [.string (⟨#[82, 97, 110, 103, 101]⟩ : ByteArray), .string (⟨#[73, 102, 45, 77, 97, 116, 99, 104]⟩ : ByteArray), .string (⟨#[73, 102, 45, 78, 111, 110, 101, 45, 77, 97, 116, 99, 104]⟩ : ByteArray), .string (⟨#[73, 102, 45, 77, 111, 100, 105, 102, 105, 101, 100, 45, 83, 105, 110, 99, 101]⟩ : ByteArray), .string (⟨#[73, 102, 45, 85, 110, 109, 111, 100, 105, 102, 105, 101, 100, 45, 83, 105, 110, 99, 101]⟩ : ByteArray), .string (⟨#[73, 102, 45, 82, 97, 110, 103, 101]⟩ : ByteArray)]) (ok := fun _ => True) (okp := fun _ => True) ?hr ?hp (fun _ hk => hk) trivial (Below.refl _ _) (Nat.le_refl _) (by simp) ?_; (case hd => rfl); (case hg => rfl); (case hr => first | (go_simp; done) | (go_simp; rfl)); (case hp => exact (Reps.one (show Kd.M Kd.string _ _ _ (⟨#[82, 97, 110, 103, 101]⟩ : ByteArray) [.string (⟨#[82, 97, 110, 103, 101]⟩ : ByteArray)] from rfl) (Reps.one (show Kd.M Kd.string _ _ _ (⟨#[73, 102, 45, 77, 97, 116, 99, 104]⟩ : ByteArray) [.string (⟨#[73, 102, 45, 77, 97, 116, 99, 104]⟩ : ByteArray)] from rfl) (Reps.one (show Kd.M Kd.string _ _ _ (⟨#[73, 102, 45, 78, 111, 110, 101, 45, 77, 97, 116, 99, 104]⟩ : ByteArray) [.string (⟨#[73, 102, 45, 78, 111, 110, 101, 45, 77, 97, 116, 99, 104]⟩ : ByteArray)] from rfl) (Reps.one (show Kd.M Kd.string _ _ _ (⟨#[73, 102, 45, 77, 111, 100, 105, 102, 105, 101, 100, 45, 83, 105, 110, 99, 101]⟩ : ByteArray) [.string (⟨#[73, 102, 45, 77, 111, 100, 105, 102, 105, 101, 100, 45, 83, 105, 110, 99, 101]⟩ : ByteArray)] from rfl) (Reps.one (show Kd.M Kd.string _ _ _ (⟨#[73, 102, 45, 85, 110, 109, 111, 100, 105, 102, 105, 101, 100, 45, 83, 105, 110, 99, 101]⟩ : ByteArray) [.string (⟨#[73, 102, 45, 85, 110, 109, 111, 100, 105, 102, 105, 101, 100, 45, 83, 105, 110, 99, 101]⟩ : ByteArray)] from rfl) (Reps.one (show Kd.M Kd.string _ _ _ (⟨#[73, 102, 45, 82, 97, 110, 103, 101]⟩ : ByteArray) [.string (⟨#[73, 102, 45, 82, 97, 110, 103, 101]⟩ : ByteArray)] from rfl) (Reps.none _ _)))))))); intro v128 w3 ho4 hb hg_ hnew_; clear hg_ hnew_; (first | rw [← Ny127.out] at ho4 | (simp only [Int.reduceToNat] at ho4; rw [← Ny127.out] at ho4)); have n0_ := am (Kd.R_lower ho4 (below_size (hA1 HB.out GE126.out))); have n1_ := am (blk_below (bA BK126.out) hb); have n2_ := am (below_step (hA1 HB.out GE126.out) hb); clear BK126; clear HB; have HO129 := n0_; have BK126 := n1_; have HB := n2_; clear n0_ n1_ n2_; clear hb ho4; obtain ⟨Ao5, co5, eo5⟩ := Kd.R_slice HO129.out; subst eo5));go_loopg [7] k (fun kq v7 w' => ∃ (x7_1 : Int), v7 = .int .i64 x7_1 ∧ Aside0 (may_Plain.l0 kq y127 (y127.length : Int) x7_1 a0_0 a0_1 a0_2 l0_3 = some r) ∧ Aside0 (kq ≤ k) ∧ Aside0 (Kd.R Kd.string 9 w' w.heap.size (fun _ => True) (.slice Ao5 y127.length co5) y127) ∧ Aside0 (w'.heap[gb126]? = some (.cells #[.string a0_0, .string a0_1, .string a0_2, (.slice A0_3 l0_3.length c0_3)] 24 (0, 0))) ∧ Aside0 (Below w.heap.size w w'))
 case atStart => exact ⟨(0), (by first | rfl | (simp; done) | (simp [*]; done)), H', ⟨Nat.le_refl _⟩, ⟨rA HO129.out⟩, ⟨bA BK126.out⟩, ⟨hA1 HB.out GE126.out⟩⟩
 case round =>
  clear H';obtain ⟨x7_1, rfl, HA, HK1, HO_5, BK126, HB⟩ := hrel
  cases gk with
  | zero => exact absurd HA.out (by simp [may_Plain.l0])
  | succ k1 =>
   have H := HA.out;clear HA;simp only [may_Plain.l0] at H
   by_cases c6 : x7_1 < (y127.length : Int)
   ·rw [if_pos c6] at H
    have c6b0 : decide (x7_1 < (y127.length : Int)) = true := decide_eq_true c6;clear c6
    by_cases c7 : 0 ≤ x7_1
    ·rw [if_pos c7] at H
     have c7b0 : decide (0 ≤ x7_1) = true := decide_eq_true c7;clear c7
     by_cases c8 : x7_1 < (y127.length : Int)
     ·rw [if_pos c8] at H
      have c8b0 : decide (x7_1 < (y127.length : Int)) = true := decide_eq_true c8;clear c8;replace H := Option.bind_eq_some_iff.mp H;obtain ⟨t131, A90, H⟩ := H;replace H : (if (t131.length : Int) > 0 then (some false) else (may_Plain.l0 k1 y127 (y127.length : Int) (wrap64 (x7_1 + 1)) a0_0 a0_1 a0_2 l0_3)) = some r := H;have A9 := am A90;clear A90
      by_cases c10 : (t131.length : Int) > 0
      ·rw [if_pos c10] at H
       have c10b0 : decide (0 < (t131.length : Int)) = true := decide_eq_true c10;have c10b1 : decide (0 < t131.length) = true := decide_eq_true (by omega);clear c10;obtain rfl := Option.some.inj H;have p130 : 0 ≤ (x7_1 : Int) := of_decide_eq_true (by first | (with_reducible assumption) | assumption);have q130 : x7_1 < (y127.length : Int) := of_decide_eq_true (by first | (with_reducible assumption) | assumption);obtain ⟨ad130, e130, hx130_0⟩ := Kd.at_string (Kd.R_reads' HO_5.out).2.2 x7_1 p130 q130
       cases e130
       replace p130 := eq_true p130;replace q130 := eq_true q130;have hcz11_0 := bC BK126.out 0 rfl;have hcz11_1 := bC BK126.out 1 rfl;have hcz11_2 := bC BK126.out 2 rfl;have hcz11_3 := bC BK126.out 3 rfl;have hfz11_0 := blk_frozen BK126.out 0;have hfz11_1 := blk_frozen BK126.out 1;have hfz11_2 := blk_frozen BK126.out 2;have hfz11_3 := blk_frozen BK126.out 3;go_wp2_with (first | ((with_reducible refine gate_callee (f:=22) rfl ?_); refine goesL_ (some 14) rfl rfl Tryz.func22 (by kernel_rfl) rfl #[.slice A0_3 l0_3.length c0_3, .string (rdOf ByteArray.empty y127 x7_1)] rfl (by (try simp only [List.map_toArray, List.map_cons, List.map_nil]); first | done | rfl | (simp only [List.length_drop, List.length_take]; rfl)) ?_; (with_reducible refine (head_All.calls k1 _ _ l0_3 (rdOf ByteArray.empty y127 x7_1) t131 _ ?side1 ?side2 A9.out).mono ?_); (case side1 => exact cA (Kd.C_below HR0_3.out HB.out)); (case side2 => exact HC0_3.out); rintro e w12 ⟨v132, rfl, ho0, hb⟩; refine ⟨_, rfl, ?_⟩; have n0_ := am (Kd.R_elder' (rA HO_5.out) (Kd.R_base ho0) hb); have n1_ := am (Kd.R_lower (Kd.R_new' ho0 (Kd.R_lt (rA HO_5.out))) (below_size (hA1 HB.out GE126.out))); have n2_ := am (blk_below (bA BK126.out) hb); have n3_ := am (below_step (hA1 HB.out GE126.out) hb); clear HO_5; clear BK126; clear HB; have HO_5 := n0_; have HO133 := n1_; have BK126 := n2_; have HB := n3_; clear n0_ n1_ n2_ n3_; (try clear hb); (try clear hb2); (try clear hk); (try clear hi); (try clear ho0); obtain ⟨Ao13, co13, eo13⟩ := Kd.R_slice HO133.out; subst eo13));go_ret;exact ⟨by first | rfl | (simp [errW_none, errW_some] <;> rfl) | (simp [*, errW_none, errW_some] <;> rfl), by repeat (first | (with_reducible first | exact HB.out | apply below_alloc | apply pw_below_drewN | apply below_drew1 | refine below_set ?_ GE126.out) | exact HB.out)⟩
      ·rw [if_neg c10] at H
       have c10b0 : decide (0 < (t131.length : Int)) = false := decide_eq_false c10;have c10b1 : decide (0 < t131.length) = false := decide_eq_false (by omega);clear c10;have H' := am H;clear H;have p130 : 0 ≤ (x7_1 : Int) := of_decide_eq_true (by first | (with_reducible assumption) | assumption);have q130 : x7_1 < (y127.length : Int) := of_decide_eq_true (by first | (with_reducible assumption) | assumption);obtain ⟨ad130, e130, hx130_0⟩ := Kd.at_string (Kd.R_reads' HO_5.out).2.2 x7_1 p130 q130
       cases e130
       replace p130 := eq_true p130;replace q130 := eq_true q130;have hcz14_0 := bC BK126.out 0 rfl;have hcz14_1 := bC BK126.out 1 rfl;have hcz14_2 := bC BK126.out 2 rfl;have hcz14_3 := bC BK126.out 3 rfl;have hfz14_0 := blk_frozen BK126.out 0;have hfz14_1 := blk_frozen BK126.out 1;have hfz14_2 := blk_frozen BK126.out 2;have hfz14_3 := blk_frozen BK126.out 3;go_wp2_with (first | ((with_reducible refine gate_callee (f:=22) rfl ?_); refine goesL_ (some 14) rfl rfl Tryz.func22 (by kernel_rfl) rfl #[.slice A0_3 l0_3.length c0_3, .string (rdOf ByteArray.empty y127 x7_1)] rfl (by (try simp only [List.map_toArray, List.map_cons, List.map_nil]); first | done | rfl | (simp only [List.length_drop, List.length_take]; rfl)) ?_; (with_reducible refine (head_All.calls k1 _ _ l0_3 (rdOf ByteArray.empty y127 x7_1) t131 _ ?side1 ?side2 A9.out).mono ?_); (case side1 => exact cA (Kd.C_below HR0_3.out HB.out)); (case side2 => exact HC0_3.out); rintro e w15 ⟨v132, rfl, ho0, hb⟩; refine ⟨_, rfl, ?_⟩; have n0_ := am (Kd.R_elder' (rA HO_5.out) (Kd.R_base ho0) hb); have n1_ := am (Kd.R_lower (Kd.R_new' ho0 (Kd.R_lt (rA HO_5.out))) (below_size (hA1 HB.out GE126.out))); have n2_ := am (blk_below (bA BK126.out) hb); have n3_ := am (below_step (hA1 HB.out GE126.out) hb); clear HO_5; clear BK126; clear HB; have HO_5 := n0_; have HO133 := n1_; have BK126 := n2_; have HB := n3_; clear n0_ n1_ n2_ n3_; (try clear hb); (try clear hb2); (try clear hk); (try clear hi); (try clear ho0); obtain ⟨Ao16, co16, eo16⟩ := Kd.R_slice HO133.out; subst eo16));go_roundg k1
       case measure => have := HK1.out; omega
       case rel => exact ⟨(wrap64 (x7_1 + 1)), (by first | rfl | (simp; done) | (simp [*]; done)), H', ⟨by have := HK1.out; omega⟩, ⟨by (with_reducible repeat (first | apply Kd.R_alloc | apply Kd.R_drewN | apply Kd.R_drew)); exact Kd.R_mono HO_5.out (fun _ hk => trivial)⟩, ⟨bA BK126.out⟩, ⟨hA1 HB.out GE126.out⟩⟩
     ·rw [if_neg c8] at H;exact absurd H (by simp)
    ·rw [if_neg c7] at H;exact absurd H (by simp)
   ·rw [if_neg c6] at H;have c6b0 : decide (x7_1 < (y127.length : Int)) = false := decide_eq_false c6;clear c6;obtain rfl := Option.some.inj H;have hcz17_0 := bC BK126.out 0 rfl;have hcz17_1 := bC BK126.out 1 rfl;have hcz17_2 := bC BK126.out 2 rfl;have hcz17_3 := bC BK126.out 3 rfl;have hfz17_0 := blk_frozen BK126.out 0;have hfz17_1 := blk_frozen BK126.out 1;have hfz17_2 := blk_frozen BK126.out 2;have hfz17_3 := blk_frozen BK126.out 3;go_wp2;go_ret;exact ⟨by first | rfl | (simp [errW_none, errW_some] <;> rfl) | (simp [*, errW_none, errW_some] <;> rfl), by repeat (first | (with_reducible first | exact HB.out | apply below_alloc | apply pw_below_drewN | apply below_drew1 | refine below_set ?_ GE126.out) | exact HB.out)⟩
end Go.Proofs.YtbnlglfddglceaaGreatDoor.Q
