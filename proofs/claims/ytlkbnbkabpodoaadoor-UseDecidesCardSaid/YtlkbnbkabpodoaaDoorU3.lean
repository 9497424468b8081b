-- Written by a program of this session's (wip/xprint.py), out of the seat's translation.
import Derived.Test.YtlkbnbkabpodoaaDoorU0
import Derived.Test.YtlkbnbkabpodoaaDoorU1
import Derived.Test.YtlkbnbkabpodoaaDoorU2
namespace Go.Proofs.YtlkbnbkabpodoaaDoor.U
open Go.RowKit Go.Proofs.YtlkbnbkabpodoaaDoorW.PrintWords Go.Proofs.YtlkbnbkabpodoaaDoorW.PrintLast Go.Proofs.YtlkbnbkabpodoaaDoorW.PrintMore
attribute [local go_sem] max2_int min2_int max_two min_two max_three min_three max_four min_four   -- for this text's walks alone
set_option linter.unusedVariables false
set_option linter.unusedSimpArgs false

/-! ### use_Decide: function 8 -/
def use_control.R (k : Nat) (l : List S29) : Option Own.Ctl := (head_All.f k l (⟨#[67, 97, 99, 104, 101, 45, 67, 111, 110, 116, 114, 111, 108]⟩ : ByteArray)).bind fun v => ccR k v
theorem use_control.monoR (k : Nat) (l : List S29) : LeO (use_control.R k l) (use_control.R (k + 1) l) := LeO.bind (head_All.mono _ _ k) fun _ => ccR_mono k _
theorem use_control.below {B g : Nat} {w0 w : World} (hb : Below B w0 w) (hg : B ≤ g) (cs : Array Value) : Below B w0 (w.setRow g cs) :=
  ⟨hb.os, hb.tape, hb.output, by rw [setRow_size]; exact hb.size, fun k hk => (setRow_other w g k cs (by omega)).trans (hb.block k hk)⟩
set_option maxHeartbeats 1000000 in
set_option maxRecDepth 100000 in
theorem use_control.own (k : Nat) (A : Option Addr) (c0 : Nat) (l : List S29) (c : Own.Ctl) (w : World) (hr0 : Kd.C k29 w A l.length l) (hc0 : l.length ≤ c0) (h : use_control.R k l = some c) :
    Calls Tryd.prog 20 #[.slice A l.length c0] w fun e w' => e = .returned (.agg c.cells) ∧ Below w.heap.size w w' := by
  unfold use_control.R at h
  obtain ⟨v, h1, h2⟩ := Option.bind_eq_some_iff.1 h
  have hu35 := Tryd.underlying34
  have HR0 := Aside0.mk hr0
  have HC0 := Aside0.mk hc0
  have H1 := Aside0.mk h1
  have H2 := Aside0.mk h2
  obtain ⟨wa, hwa⟩ : ∃ wa, wa = w.alloc (.cells #[.bool false, .bool false, .bool false, .bool false, .bool false, .bool false, .bool false, .bool false, .bool false, .bool false, .bool false, .bool false, .int .i64 0, .bool false, .int .i64 0, .bool false, .int .i64 0, .bool false, .int .i64 0, .bool false, .int .i64 0] 34) := ⟨_, rfl⟩
  have HB : Aside0 (Below w.heap.size w wa) := ⟨by rw [hwa]; exact (Below.refl _ w).alloc (Nat.le_refl _) _⟩
  have HZ : Aside0 (wa.heap[w.heap.size]? = some (.cells Own.Ctl.zero.cells 34 (0, 0))) := ⟨by rw [hwa]; exact blk_new w _⟩
  have HSZ : Aside0 (some 21 = some c.cells.size) := ⟨rfl⟩
  clear hr0 hc0 h h1 h2
  go_enter Tryd.func20, Tryd.ntmps20
  go_wp2_with (first | (go_at_call 12; rw [← hwa]; (with_reducible refine (head_All.calls k A c0 l _ v _ (Kd.C_below HR0.out HB.out) HC0.out H1.out).mono ?_); rintro e w1 ⟨v1, rfl, hR, hb⟩; obtain ⟨A1, c1, rfl, hc1, hC1⟩ := Kd.R_reads hR; have n0_ := Aside0.mk (HB.out.trans (hb.mono HB.out.size)); have n1_ := Aside0.mk (blk_below HZ.out hb); have HC1 := Aside0.mk hC1; clear HB HZ hb hR hC1 hwa; have HB := n0_; have HZ := n1_; clear n0_ n1_) | (go_at_call 11; (with_reducible refine (ccR_calls k A1 c1 v c _ HC1.out hc1 H2.out).mono ?_); rintro e w2 ⟨rfl, hb⟩; have n0_ := Aside0.mk (HB.out.trans (hb.mono HB.out.size)); have n1_ := Aside0.mk (blk_below HZ.out hb); clear HB HZ hb; have HB := n0_; have HZ := n1_; clear n0_ n1_) | ((with_reducible refine gate_store (t := 34) rfl ?_); refine wpList_store_row rfl 34 _ _ rfl w.heap.size c.cells rfl rfl 34 Own.Ctl.zero.cells HZ.out (cc_info.trans HSZ.out) rfl (by simp [Own.Ctl.cells, Value.oneCell']) ?_))
  refine bodyPost_ret (results_cell_row rfl _ _ w.heap.size 34 c.cells (0, 0) _ rfl (setRow_heap _ _ _ _ _ _ HZ.out) hu35 rfl (cc_info.trans HSZ.out)) rfl ?_
  exact ⟨rfl, use_control.below HB.out (Nat.le_refl _) _⟩
def use_wish.go : List ByteArray → Bool → Option Bool
  | [], b => some b
  | _ :: t, true => use_wish.go t true
  | p :: t, false => (head_Lower.f p).bind fun nm => use_wish.go t (nm.toList == ([110, 111, 45, 99, 97, 99, 104, 101] : List UInt8))
def use_wish.R (k : Nat) (l : List S29) : Option Own.Ctl := (head_All.f k l (⟨#[67, 97, 99, 104, 101, 45, 67, 111, 110, 116, 114, 111, 108]⟩ : ByteArray)).bind fun v => (ccR k v).bind fun c => match v with
  | [] => (head_All.f k l (⟨#[80, 114, 97, 103, 109, 97]⟩ : ByteArray)).bind fun p => (head_Split.f k p).bind fun ps => (use_wish.go ps c.b1).bind fun b => some { c with b1 := b }
  | _ :: _ => some c
theorem use_wish.monoR (k : Nat) (l : List S29) : LeO (use_wish.R k l) (use_wish.R (k + 1) l) := by
  unfold use_wish.R
  refine LeO.bind (head_All.mono _ _ k) fun v => LeO.bind (ccR_mono k _) fun c => ?_
  cases v with
  | nil => exact LeO.bind (head_All.mono _ _ k) fun _ => LeO.bind (head_Split.mono _ k) fun _ => LeO.refl _
  | cons _ _ => exact LeO.refl _
set_option maxHeartbeats 1000000 in
set_option maxRecDepth 100000 in
theorem use_wish.yes (k : Nat) (A : Option Addr) (c0 : Nat) (l : List S29) (v : List ByteArray) (c : Own.Ctl) (w : World) (hr0 : Kd.C k29 w A l.length l) (hc0 : l.length ≤ c0) (h1 : head_All.f k l (⟨#[67, 97, 99, 104, 101, 45, 67, 111, 110, 116, 114, 111, 108]⟩ : ByteArray) = some v) (hv : 0 < v.length) (h2 : ccR k v = some c) :
    Calls Tryd.prog 19 #[.slice A l.length c0] w fun e w' => e = .returned (.agg c.cells) ∧ Below w.heap.size w w' := by
  have hu35 := Tryd.underlying34
  have HR0 := Aside0.mk hr0
  have HC0 := Aside0.mk hc0
  have H1 := Aside0.mk h1
  have H2 := Aside0.mk h2
  obtain ⟨wa, hwa⟩ : ∃ wa, wa = w.alloc (.cells #[.bool false, .bool false, .bool false, .bool false, .bool false, .bool false, .bool false, .bool false, .bool false, .bool false, .bool false, .bool false, .int .i64 0, .bool false, .int .i64 0, .bool false, .int .i64 0, .bool false, .int .i64 0, .bool false, .int .i64 0] 34) := ⟨_, rfl⟩
  have HB : Aside0 (Below w.heap.size w wa) := ⟨by rw [hwa]; exact (Below.refl _ w).alloc (Nat.le_refl _) _⟩
  have HZ : Aside0 (wa.heap[w.heap.size]? = some (.cells Own.Ctl.zero.cells 34 (0, 0))) := ⟨by rw [hwa]; exact blk_new w _⟩
  have HSZ : Aside0 (some 21 = some c.cells.size) := ⟨rfl⟩
  have q0 : ((v.length : Int) == 0) = false := by simp; intro e; rw [e] at hv; simp at hv
  have q1 : decide ((v.length : Int) = 0) = false := decide_eq_false (by omega)
  have q2 : decide (v.length = 0) = false := decide_eq_false (by omega)
  clear hr0 hc0 h1 h2 hv
  go_enter Tryd.func19, Tryd.ntmps19
  go_wp2_with (first | (go_at_call 12; rw [← hwa]; (with_reducible refine (head_All.calls k A c0 l _ v _ (Kd.C_below HR0.out HB.out) HC0.out H1.out).mono ?_); rintro e w1 ⟨v1, rfl, hR, hb⟩; obtain ⟨A1, c1, rfl, hc1, hC1⟩ := Kd.R_reads hR; have n0_ := Aside0.mk (HB.out.trans (hb.mono HB.out.size)); have n1_ := Aside0.mk (blk_below HZ.out hb); have HC1 := Aside0.mk hC1; clear HB HZ hb hR hC1 hwa; have HB := n0_; have HZ := n1_; clear n0_ n1_) | (go_at_call 11; (with_reducible refine (ccR_calls k A1 c1 v c _ HC1.out hc1 H2.out).mono ?_); rintro e w2 ⟨rfl, hb⟩; have n0_ := Aside0.mk (HB.out.trans (hb.mono HB.out.size)); have n1_ := Aside0.mk (blk_below HZ.out hb); clear HB HZ hb; have HB := n0_; have HZ := n1_; clear n0_ n1_) | ((with_reducible refine gate_store (t := 34) (p := 4) rfl ?_); refine wpList_store_row rfl 34 _ _ rfl w2.heap.size c.cells rfl rfl 34 Own.Ctl.zero.cells (blk_new w2 _) (cc_info.trans HSZ.out) rfl (by simp [Own.Ctl.cells, Value.oneCell']) ?_; obtain ⟨w3, hw3⟩ : ∃ w3, w3 = (w2.alloc (.cells #[.bool false, .bool false, .bool false, .bool false, .bool false, .bool false, .bool false, .bool false, .bool false, .bool false, .bool false, .bool false, .int .i64 0, .bool false, .int .i64 0, .bool false, .int .i64 0, .bool false, .int .i64 0, .bool false, .int .i64 0] 34)).setRow w2.heap.size c.cells := ⟨_, rfl⟩; have HA3 : Aside0 (w3.heap[w2.heap.size]? = some (.cells c.cells 34 (0, 0))) := (⟨by rw [hw3]; exact setRow_heap _ _ _ _ _ _ (blk_new w2 _)⟩); have HLT := blk_lt HZ.out; have HZ3 : Aside0 (w3.heap[w.heap.size]? = some (.cells Own.Ctl.zero.cells 34 (0, 0))) := (⟨by rw [hw3]; exact (setRow_other _ _ _ _ (by omega)).trans (blk_alloc HZ.out _)⟩); have HB3 : Aside0 (Below w.heap.size w w3) := (⟨by rw [hw3]; exact use_control.below (HB.out.alloc HB.out.size _) HB.out.size _⟩); rw [← hw3]; clear hw3 HB HZ HLT) | ((with_reducible refine gate_dst (N := 31) rfl ?_); refine wpList_load_row rfl 34 (.tmp 4) rfl w2.heap.size rfl 34 c.cells (0, 0) _ HA3.out hu35 rfl (cc_info.trans HSZ.out) ?_) | ((with_reducible refine gate_store (t := 34) (p := 2) rfl ?_); refine wpList_store_row rfl 34 _ _ rfl w.heap.size c.cells rfl rfl 34 Own.Ctl.zero.cells HZ3.out (cc_info.trans HSZ.out) rfl (by simp [Own.Ctl.cells, Value.oneCell']) ?_))
  refine bodyPost_ret (results_cell_row rfl _ _ w.heap.size 34 c.cells (0, 0) _ rfl (setRow_heap _ _ _ _ _ _ HZ3.out) hu35 rfl (cc_info.trans HSZ.out)) rfl ?_
  exact ⟨rfl, use_control.below HB3.out (Nat.le_refl _) _⟩
theorem wish_b1 (c : Own.Ctl) (b : Bool) : c.cells.setIfInBounds 1 (.bool b) = ({ c with b1 := b } : Own.Ctl).cells := by simp [Own.Ctl.cells]
set_option maxHeartbeats 1000000 in
set_option maxRecDepth 100000 in
theorem use_wish.no (k : Nat) (A : Option Addr) (c0 : Nat) (l : List S29) (v p ps : List ByteArray) (hv : v.length = 0) (c : Own.Ctl) (bb : Bool) (w : World) (hr0 : Kd.C k29 w A l.length l) (hc0 : l.length ≤ c0) (h1 : head_All.f k l (⟨#[67, 97, 99, 104, 101, 45, 67, 111, 110, 116, 114, 111, 108]⟩ : ByteArray) = some v) (h2 : ccR k v = some c) (h3 : head_All.f k l (⟨#[80, 114, 97, 103, 109, 97]⟩ : ByteArray) = some p) (h4 : head_Split.f k p = some ps) (h5 : use_wish.go ps c.b1 = some bb) :
    Calls Tryd.prog 19 #[.slice A l.length c0] w fun e w' => e = .returned (.agg ({ c with b1 := bb } : Own.Ctl).cells) ∧ Below w.heap.size w w' := by
  have hu35 := Tryd.underlying34
  have HR0 := Aside0.mk hr0
  have HC0 := Aside0.mk hc0
  have H1 := Aside0.mk h1
  have H2 := Aside0.mk h2
  have H3 := Aside0.mk h3
  have H4 := Aside0.mk h4
  have H5 := Aside0.mk h5
  obtain ⟨wa, hwa⟩ : ∃ wa, wa = w.alloc (.cells #[.bool false, .bool false, .bool false, .bool false, .bool false, .bool false, .bool false, .bool false, .bool false, .bool false, .bool false, .bool false, .int .i64 0, .bool false, .int .i64 0, .bool false, .int .i64 0, .bool false, .int .i64 0, .bool false, .int .i64 0] 34) := ⟨_, rfl⟩
  have HB : Aside0 (Below w.heap.size w wa) := ⟨by rw [hwa]; exact (Below.refl _ w).alloc (Nat.le_refl _) _⟩
  have HZ : Aside0 (wa.heap[w.heap.size]? = some (.cells Own.Ctl.zero.cells 34 (0, 0))) := ⟨by rw [hwa]; exact blk_new w _⟩
  have HSZ : Aside0 (some 21 = some c.cells.size) := ⟨rfl⟩
  have q0 : ((v.length : Int) == 0) = true := by simp; exact List.length_eq_zero_iff.1 hv
  have q1 : decide ((v.length : Int) = 0) = true := decide_eq_true (by omega)
  have q2 : decide (v.length = 0) = true := decide_eq_true (by omega)
  clear hr0 hc0 h1 h2 h3 h4 h5 hv
  have T0 := Aside0.mk trivial
  go_enter Tryd.func19, Tryd.ntmps19
  go_wp2_with (first | (clear T0; go_at_call 12; rw [← hwa]; (with_reducible refine (head_All.calls k A c0 l _ v _ (Kd.C_below HR0.out HB.out) HC0.out H1.out).mono ?_); rintro e w1 ⟨v1, rfl, hR, hb⟩; obtain ⟨A1, c1, rfl, hc1, hC1⟩ := Kd.R_reads hR; have n0_ := Aside0.mk (HB.out.trans (hb.mono HB.out.size)); have n1_ := Aside0.mk (blk_below HZ.out hb); have HC1 := Aside0.mk hC1; clear HB HZ hb hR hC1 hwa; have HB := n0_; have HZ := n1_; clear n0_ n1_; have T1 := Aside0.mk trivial) | (go_at_call 11; (with_reducible refine (ccR_calls k A1 c1 v c _ HC1.out hc1 H2.out).mono ?_); rintro e w2 ⟨rfl, hb⟩; have n0_ := Aside0.mk (HB.out.trans (hb.mono HB.out.size)); have n1_ := Aside0.mk (blk_below HZ.out hb); clear HB HZ hb; have HB := n0_; have HZ := n1_; clear n0_ n1_) | ((with_reducible refine gate_store (t := 34) (p := 4) rfl ?_); refine wpList_store_row rfl 34 _ _ rfl w2.heap.size c.cells rfl rfl 34 Own.Ctl.zero.cells (blk_new w2 _) (cc_info.trans HSZ.out) rfl (by simp [Own.Ctl.cells, Value.oneCell']) ?_; obtain ⟨w3, hw3⟩ : ∃ w3, w3 = (w2.alloc (.cells #[.bool false, .bool false, .bool false, .bool false, .bool false, .bool false, .bool false, .bool false, .bool false, .bool false, .bool false, .bool false, .int .i64 0, .bool false, .int .i64 0, .bool false, .int .i64 0, .bool false, .int .i64 0, .bool false, .int .i64 0] 34)).setRow w2.heap.size c.cells := ⟨_, rfl⟩; have HA3 : Aside0 (w3.heap[w2.heap.size]? = some (.cells c.cells 34 (0, 0))) := (⟨by rw [hw3]; exact setRow_heap _ _ _ _ _ _ (blk_new w2 _)⟩); have HLT := Aside0.mk (blk_lt HZ.out); have HZ3 : Aside0 (w3.heap[w.heap.size]? = some (.cells Own.Ctl.zero.cells 34 (0, 0))) := (⟨by rw [hw3]; exact (setRow_other _ _ _ _ (by have := HLT.out; omega)).trans (blk_alloc HZ.out _)⟩); have HB3 : Aside0 (Below w.heap.size w w3) := (⟨by rw [hw3]; exact use_control.below (HB.out.alloc HB.out.size _) HB.out.size _⟩); rw [← hw3]; clear hw3 HB HZ) | (clear T1; go_at_call 12; (with_reducible refine (head_All.calls k A c0 l _ p _ (Kd.C_below HR0.out HB3.out) HC0.out H3.out).mono ?_); rintro e w4 ⟨v4, rfl, hR, hb⟩; obtain ⟨A4, c4, rfl, hc4, hC4⟩ := Kd.R_reads hR; have HB := Aside0.mk (HB3.out.trans (hb.mono HB3.out.size)); have HZ := Aside0.mk (blk_below HZ3.out hb); have HA4 := Aside0.mk (blk_below HA3.out hb); have HC4 := Aside0.mk hC4; clear HB3 HZ3 HA3 hb hR hC4) | (go_at_call 23; (with_reducible refine (head_Split.calls k A4 c4 p ps _ HC4.out hc4 H4.out).mono ?_); rintro e w5 ⟨v5, rfl, hR, hb⟩; obtain ⟨A5, c5, rfl, hc5, hC5⟩ := Kd.R_reads hR; have HB5 := Aside0.mk (HB.out.trans (hb.mono HB.out.size)); have HZ5 := Aside0.mk (blk_below HZ.out hb); have HA5 := Aside0.mk (blk_below HA4.out hb); have HC5 := Aside0.mk hC5; have HNE : Aside0 (some w2.heap.size ≠ (Value.slice A5 ps.length c5).ownBlock) := ⟨Kd.R_ne hR HA5.out (by decide)⟩; clear HB HZ HA4 hb hR hC5))
  have hlen : ps.length ≤ 9223372036854775807 := HC5.out.2.1
  have HBL := Aside0.mk (show w.heap.size ≤ w2.heap.size by have := HLT.out; omega)
  go_loopg [18] ps.length (fun gg i wr => ∃ n : Nat, i = .int .i64 n ∧ n ≤ ps.length ∧ ps.length - n ≤ gg ∧ ∃ b : Bool, Aside0 (use_wish.go (ps.drop n) b = some bb) ∧ Aside0 (CcSt w w5 w2.heap.size { c with b1 := b } wr))
  case atStart => exact ⟨0, rfl, by omega, by omega, c.b1, ⟨H5.out⟩, ⟨⟨HA5.out, HB5.out, KeepBut.refl _ _ _⟩⟩⟩
  case round =>
    obtain ⟨n, rfl, hn, hgg, b, hst, hS0⟩ := hrel
    by_cases hlt : n < ps.length
    · have hx : ps[n]? = some ps[n] := List.getElem?_eq_getElem hlt
      have q1 : decide ((n : Int) < (ps.length : Int)) = true := decide_eq_true (by omega)
      obtain ⟨ad, rfl, hx0⟩ := cc_at_str HC5.out n _ hx
      replace hx0 : wr.cell? (ad.add n) = some (.string ps[n]) := by
        have hl := World.block_lt_of_cell? w5 _ hx0
        have hne : (ad.add n).block ≠ w2.heap.size := fun e => HNE.out (by rw [← e]; simp [Value.ownBlock, Addr.add]; split <;> rfl)
        have := hS0.out.keep.2 (ad.add n).block hl hne (by simp)
        rw [← hx0]; unfold World.cell?; rw [this]
      have p5 := eq_true (show (0 : Int) ≤ (n : Int) by omega)
      have q5 := eq_true (show (n : Int) < (ps.length : Int) by omega)
      have hd : ps.drop n = ps[n] :: ps.drop (n + 1) := List.drop_eq_getElem_cons hlt
      have hst' := hst.out
      rw [hd] at hst'
      clear hd hx hst
      generalize ps[n] = x at *
      have cb1 := (blk_cell hS0.out.at_ 1).trans (show ({ c with b1 := b } : Own.Ctl).cells[1]? = some (.bool b) from rfl)
      have fb1 := blk_frozen hS0.out.at_ 1
      cases b with
      | true =>
        have HN := Aside0.mk (show use_wish.go (ps.drop (n + 1)) true = some bb from hst')
        clear hst'
        go_wp2
        go_roundg (ps.length - (n + 1))
        case measure => omega
        case rel => exact ⟨n + 1, rfl, by omega, by omega, true, HN, ⟨⟨by rw [blk_set hS0.out.at_ 1, wish_b1], hS0.out.below.setCell HBL.out _, hS0.out.keep.set_ _ _⟩⟩⟩
      | false =>
        obtain ⟨nm, e1, hst'⟩ := Option.bind_eq_some_iff.1 (show (head_Lower.f x).bind (fun nm => use_wish.go (ps.drop (n + 1)) (nm.toList == ([110, 111, 45, 99, 97, 99, 104, 101] : List UInt8))) = some bb from hst')
        have k1 := fun w => head_Lower.calls x nm w e1
        have HN := Aside0.mk hst'
        clear hst' e1
        go_wp2_with (go_at_call 26; (with_reducible refine (k1 _).mono ?_); rintro e w6 ⟨rfl, hb⟩; have S6 := Aside0.mk (hS0.out.next hb); have f6 := blk_frozen S6.out.at_ 1; have c6 := (blk_cell S6.out.at_ 1).trans (show ({ c with b1 := false } : Own.Ctl).cells[1]? = some (.bool false) from rfl); clear hb k1)
        go_roundg (ps.length - (n + 1))
        case measure => omega
        case rel => exact ⟨n + 1, rfl, by omega, by omega, _, HN, ⟨⟨by rw [blk_set S6.out.at_ 1, wish_b1], S6.out.below.setCell HBL.out _, S6.out.keep.set_ _ _⟩⟩⟩
    · have q1 : decide ((n : Int) < (ps.length : Int)) = false := decide_eq_false (by omega)
      have hd : ps.drop n = [] := List.drop_eq_nil_of_le (by omega)
      have hst' := hst.out
      rw [hd] at hst'
      obtain rfl : b = bb := Option.some.inj hst'
      have hlt5 := blk_lt HA5.out
      have HZR : Aside0 (wr.heap[w.heap.size]? = some (.cells Own.Ctl.zero.cells 34 (0, 0))) := ⟨(hS0.out.keep.2 w.heap.size (blk_lt HZ5.out) (by have := HLT.out; omega) (by simp)).trans HZ5.out⟩
      have HRS : Aside0 (some 21 = some ({ c with b1 := b } : Own.Ctl).cells.size) := ⟨rfl⟩
      have hone : ({ c with b1 := b } : Own.Ctl).cells.all (·.oneCell') = true := by simp [Own.Ctl.cells, Value.oneCell']
      have hat := hS0.out.at_
      have HBW := Aside0.mk hS0.out.below
      have hrs := HRS.out
      clear HRS
      obtain ⟨fc, hfc⟩ : ∃ fc, fc = ({ c with b1 := b } : Own.Ctl).cells := ⟨_, rfl⟩
      rw [← hfc] at hat hrs hone
      have HAT := Aside0.mk hat
      have HRS := Aside0.mk hrs
      have HFC := Aside0.mk hfc
      clear hfc hat hrs
      clear hd hst' hst hlt5 hS0
      go_wp2_with (first | ((with_reducible refine gate_dst (N := 31) rfl ?_); refine wpList_load_row rfl 34 (.tmp 4) rfl w2.heap.size rfl 34 fc (0, 0) _ HAT.out hu35 rfl (cc_info.trans HRS.out) ?_) | ((with_reducible refine gate_store (t := 34) (p := 2) rfl ?_); refine wpList_store_row rfl 34 _ _ rfl w.heap.size fc rfl rfl 34 Own.Ctl.zero.cells HZR.out (cc_info.trans HRS.out) (by rw [← Option.some.inj HRS.out]; rfl) hone ?_))
      refine bodyPost_ret (results_cell_row rfl _ _ w.heap.size 34 fc (0, 0) _ rfl (setRow_heap _ _ _ _ _ _ HZR.out) hu35 rfl (cc_info.trans HRS.out)) rfl ?_
      exact ⟨by rw [HFC.out], use_control.below HBW.out (Nat.le_refl _) _⟩
theorem use_wish.own (k : Nat) (A : Option Addr) (c0 : Nat) (l : List S29) (c : Own.Ctl) (w : World) (hr0 : Kd.C k29 w A l.length l) (hc0 : l.length ≤ c0) (h : use_wish.R k l = some c) :
    Calls Tryd.prog 19 #[.slice A l.length c0] w fun e w' => e = .returned (.agg c.cells) ∧ Below w.heap.size w w' := by
  unfold use_wish.R at h
  obtain ⟨v, h1, h⟩ := Option.bind_eq_some_iff.1 h
  obtain ⟨c1, h2, h⟩ := Option.bind_eq_some_iff.1 h
  cases v with
  | cons x t =>
    obtain rfl : c1 = c := Option.some.inj h
    exact use_wish.yes k A c0 l (x :: t) c1 w hr0 hc0 h1 (by simp) h2
  | nil =>
    obtain ⟨p, h3, h⟩ := Option.bind_eq_some_iff.1 (show (head_All.f k l (⟨#[80, 114, 97, 103, 109, 97]⟩ : ByteArray)).bind (fun p => (head_Split.f k p).bind fun ps => (use_wish.go ps c1.b1).bind fun b => some ({ c1 with b1 := b } : Own.Ctl)) = some c from h)
    obtain ⟨ps, h4, h⟩ := Option.bind_eq_some_iff.1 h
    obtain ⟨b, h5, h⟩ := Option.bind_eq_some_iff.1 h
    obtain rfl := Option.some.inj h
    exact use_wish.no k A c0 l [] p ps rfl c1 b w hr0 hc0 h1 h2 h3 h4 h5
def strictB (sh : Bool) (c : Own.Ctl) : Bool := c.b4 || (sh && (c.b5 || c.h1))
set_option maxHeartbeats 1000000 in
set_option maxRecDepth 100000 in
theorem use_strict.own (sh : Bool) (c : Own.Ctl) (w : World) :
    Calls Tryd.prog 22 #[.bool sh, .agg c.cells] w fun e w' => e = .returned (.bool (strictB sh c)) ∧ Below w.heap.size w w' := by
  have hu35 := Tryd.underlying34
  have hu33 := Tryd.underlying32
  obtain ⟨cs, hcs⟩ : ∃ cs, cs = c.cells := ⟨_, rfl⟩
  have hz := blk_new w (.cells cs 34)
  have hb : Below w.heap.size w (w.alloc (.cells cs 34)) := (Below.refl _ w).alloc (Nat.le_refl _) _
  have c4 := (blk_cell hz 4).trans (show cs[4]? = some (.bool c.b4) by rw [hcs]; rfl)
  have c5 := (blk_cell hz 5).trans (show cs[5]? = some (.bool c.b5) by rw [hcs]; rfl)
  have c13 := (blk_cell hz 13).trans (show cs[13]? = some (.bool c.h1) by rw [hcs]; rfl)
  rw [← hcs]
  have HBB := Aside0.mk hb
  unfold strictB
  clear hz hb hcs
  generalize c.b4 = x4 at *
  generalize c.b5 = x5 at *
  generalize c.h1 = x13 at *
  cases x4 <;> cases sh <;> cases x5 <;> cases x13
  all_goals
    go_enter Tryd.func22, Tryd.ntmps22
    go_wp2
    go_ret
    exact ⟨rfl, HBB.out⟩
def lN (n i : Nat) : Array Bool := ⟨List.replicate i true ++ List.replicate (n - i) false⟩
def clipI (n : Int) : Int := mn (mx n 0) 2147483648
def addI (a b : Int) : Int := clipI (clipI a + clipI b)
def subI (a b : Int) : Int := clipI (clipI a - clipI b)
theorem clipI_rng (n : Int) : 0 ≤ clipI n ∧ clipI n ≤ 2147483648 := by unfold clipI mn mx; (repeat' split) <;> omega
theorem Clip_is (n : Int) : bits_Clip.f n = some (clipI n) := rfl
theorem Add_is (a b : Int) : bits_Add.f a b = some (addI a b) := by
  unfold bits_Add.f
  rw [Clip_is, Clip_is]
  have h1 := clipI_rng a
  have h2 := clipI_rng b
  simp only [Option.bind_some]
  rw [show wrap64 (clipI a + clipI b) = clipI a + clipI b by unfold wrap64; omega, Clip_is]
  rfl
theorem Sub_is (a b : Int) : bits_Sub.f a b = some (subI a b) := by
  unfold bits_Sub.f
  rw [Clip_is, Clip_is]
  have h1 := clipI_rng a
  have h2 := clipI_rng b
  simp only [Option.bind_some]
  rw [show wrap64 (clipI a - clipI b) = clipI a - clipI b by unfold wrap64; omega, Clip_is]
  rfl
def decideI (sh : Bool) (a s : Own.Ctl) (o l : Int) : Int :=
  if a.b1 = true then 3 else if s.b1 = true then 3 else if a.h0 = true ∧ a.n0 < o then 3 else
  if addI o a.n3 < l then 1 else if strictB sh s = true then 3 else if a.h3 = true then 3 else if a.b10 = true then 2 else if a.h2 = true then (if a.n2 ≥ subI o l then 2 else 3) else 3
def failB (sh : Bool) (a s : Own.Ctl) (late : Int) : Bool := !strictB sh s && (!a.b1 && (!s.b1 && ((a.h4 && decide (a.n4 ≥ late)) || (s.h4 && decide (s.n4 ≥ late)))))
section
variable {P : Program} {ops : Array Oper} {w : World}
theorem us_load {e : Operand → Value} {o : Oper} {x : Operand} {w : World} {p : Addr} {v : Value} (t : TypeId) (hld : (loadVar t p).run P w = .ok v w) (ho : o.op = .load t x) (hx : e x = .pointer (some p)) : (execOp e o).run P w = .ok (.value v) w := by
  unfold execOp
  simp only [ho, hx, Instr.loadAt, Instr.sureAddr, Sem.run_bind, Sem.run_pure, Result.andThen_ok, hld]
end
theorem us_bool {w : World} {p : Addr} {v : Value} (hc : w.cell? p = some v) : (loadVar 4 p).run Tryd.prog w = .ok v w := by go_simp
theorem us_int {w : World} {p : Addr} {v : Value} (hc : w.cell? p = some v) : (loadVar 3 p).run Tryd.prog w = .ok v w := by go_simp
theorem us_geq {e : Operand → Value} {o : Oper} {x y : Operand} {w : World} {m n : Int} {b : Bool} (h : decide (m ≥ n) = b) (ho : o.op = .binOp .geq 3 x y 3) (hx : e x = .int .i64 m) (hy : e y = .int .i64 n) : (execOp e o).run Tryd.prog w = .ok (.value (.bool b)) w := by
  subst h
  unfold execOp
  simp only [ho, hx, hy]
  go_simp
set_option maxHeartbeats 4000000 in
set_option maxRecDepth 100000 in
theorem use_Decide.own (k : Nat) (sh : Bool) (A1 : Option Addr) (c1 : Nat) (l1 : List S29) (A2 : Option Addr) (c2 : Nat) (l2 : List S29) (old life : Int) (a s : Own.Ctl) (w : World) (hr1 : Kd.C k29 w A1 l1.length l1) (hc1 : l1.length ≤ c1) (hr2 : Kd.C k29 w A2 l2.length l2) (hc2 : l2.length ≤ c2) (ha : use_wish.R k l1 = some a) (hs : use_control.R k l2 = some s) :
    Calls Tryd.prog 8 #[.bool sh, .slice A1 l1.length c1, .slice A2 l2.length c2, .int .i64 old, .int .i64 life] w fun e w' => e = .returned (.int .i64 (decideI sh a s (clipI old) (clipI life))) ∧ Below w.heap.size w w' := by
  have hu35 := Tryd.underlying34
  have hu33 := Tryd.underlying32
  have HR1 := Aside0.mk hr1
  have HR2 := Aside0.mk hr2
  have HC1 := Aside0.mk hc1
  have HC2 := Aside0.mk hc2
  have HWA := Aside0.mk ha
  have HWS := Aside0.mk hs
  have HBF := Aside0.mk (Below.refl w.heap.size w)
  have HSA : Aside0 (some 21 = some a.cells.size) := ⟨rfl⟩
  have HSS : Aside0 (some 21 = some s.cells.size) := ⟨rfl⟩
  clear hr1 hr2 hc1 hc2 ha hs
  have T0 := Aside0.mk trivial
  go_enter Tryd.func8, Tryd.ntmps8
  go_upto_region 3 with (first | (clear T0; go_at_call 14; (with_reducible refine (bits_Clip.calls old _ _ (Clip_is old)).mono ?_); rintro e w1 ⟨rfl, hb⟩; have n0_ := Aside0.mk (HBF.out.trans (hb.mono HBF.out.size)); clear HBF hb; have HBF := n0_; clear n0_; have T1 := Aside0.mk trivial) | (clear T1; go_at_call 14; (with_reducible refine (bits_Clip.calls life _ _ (Clip_is life)).mono ?_); rintro e w2 ⟨rfl, hb⟩; have n0_ := Aside0.mk (HBF.out.trans (hb.mono HBF.out.size)); clear HBF hb; have HBF := n0_; clear n0_; have T2 := Aside0.mk trivial) | (go_at_call 19; (with_reducible refine (use_wish.own k A1 c1 l1 a _ (Kd.C_below HR1.out HBF.out) HC1.out HWA.out).mono ?_); rintro e w3 ⟨rfl, hb⟩; have n0_ := Aside0.mk (HBF.out.trans (hb.mono HBF.out.size)); clear HBF hb; have HBF := n0_; clear n0_) | (go_at_call 20; (with_reducible refine (use_control.own k A2 c2 l2 s _ (Kd.C_below HR2.out HBF.out) HC2.out HWS.out).mono ?_); rintro e w4 ⟨rfl, hb⟩; have n0_ := Aside0.mk (HBF.out.trans (hb.mono HBF.out.size)); clear HBF hb; have HBF := n0_; clear n0_) | ((with_reducible refine gate_store (t := 34) (p := 11) rfl ?_); refine wpList_store_row rfl 34 _ _ rfl w4.heap.size a.cells rfl rfl 34 Own.Ctl.zero.cells (blk_alloc (blk_new w4 _) _) (cc_info.trans HSA.out) rfl (by simp [Own.Ctl.cells, Value.oneCell']) ?_) | ((with_reducible refine gate_store (t := 34) (p := 12) rfl ?_); obtain ⟨wy, hwy⟩ : ∃ wy, wy = (w4.alloc (.cells #[.bool false, .bool false, .bool false, .bool false, .bool false, .bool false, .bool false, .bool false, .bool false, .bool false, .bool false, .bool false, .int .i64 0, .bool false, .int .i64 0, .bool false, .int .i64 0, .bool false, .int .i64 0, .bool false, .int .i64 0] 34)).alloc (.cells #[.bool false, .bool false, .bool false, .bool false, .bool false, .bool false, .bool false, .bool false, .bool false, .bool false, .bool false, .bool false, .int .i64 0, .bool false, .int .i64 0, .bool false, .int .i64 0, .bool false, .int .i64 0, .bool false, .int .i64 0] 34) := ⟨_, rfl⟩; have hby := (by rw [hwy]; exact (HBF.out.alloc HBF.out.size _).alloc (by rw [World.size_alloc]; have := HBF.out.size; omega) _ : Below w.heap.size w wy); have hy0 := (by rw [hwy]; exact blk_alloc (blk_new w4 _) _ : wy.heap[w4.heap.size]? = some (.cells Own.Ctl.zero.cells 34 (0, 0))); have hy1 := (by rw [hwy]; exact heap_alloc2_new w4 _ _ : wy.heap[w4.heap.size + 1]? = some (.cells Own.Ctl.zero.cells 34 (0, 0))); obtain ⟨wv, hwv⟩ : ∃ wv, wv = wy.setRow w4.heap.size a.cells := ⟨_, rfl⟩; have hv1 := (by rw [hwv]; exact (setRow_other _ _ _ _ (by omega)).trans hy1 : wv.heap[w4.heap.size + 1]? = some (.cells Own.Ctl.zero.cells 34 (0, 0))); have hv0 := (by rw [hwv]; exact setRow_heap _ _ _ _ _ _ hy0 : wv.heap[w4.heap.size]? = some (.cells a.cells 34 (0, 0))); rw [← hwy, ← hwv]; refine wpList_store_row rfl 34 _ _ rfl (w4.heap.size + 1) s.cells rfl rfl 34 Own.Ctl.zero.cells hv1 (cc_info.trans HSS.out) rfl (by simp [Own.Ctl.cells, Value.oneCell']) ?_; obtain ⟨wf, hwf⟩ : ∃ wf, wf = wv.setRow (w4.heap.size + 1) s.cells := ⟨_, rfl⟩; have HA := Aside0.mk (by rw [hwf]; exact (setRow_other _ _ _ _ (by omega)).trans hv0 : wf.heap[w4.heap.size]? = some (.cells a.cells 34 (0, 0))); have HS := Aside0.mk (by rw [hwf]; exact setRow_heap _ _ _ _ _ _ hv1 : wf.heap[w4.heap.size + 1]? = some (.cells s.cells 34 (0, 0))); have n0_ := Aside0.mk (by rw [hwf, hwv]; exact use_control.below (use_control.below hby HBF.out.size _) (by have := HBF.out.size; omega) _ : Below w.heap.size w wf); rw [← hwf]; clear hwf hwv hwy hy0 hy1 hv0 hv1 hby HBF; have HBF := n0_; clear n0_; generalize w4.heap.size = B0 at *))
  generalize ho : clipI old = o at *
  generalize hl : clipI life = lf at *
  have HO := Aside0.mk ho
  have HL := Aside0.mk hl
  clear ho hl
  cases q1 : a.b1 with
  | true =>
    have ca1 := (blk_cell HA.out 1).trans (show a.cells[1]? = some (.bool true) by show some (Value.bool a.b1) = _; rw [q1])
    have Q1 := Aside0.mk q1
    clear q1
    go_wp2
    go_ret
    exact ⟨by rw [HO.out, HL.out, show decideI sh a s o lf = 3 by unfold decideI; rw [if_pos Q1.out]]; rfl, HBF.out⟩
  | false =>
    have ca1 := (blk_cell HA.out 1).trans (show a.cells[1]? = some (.bool false) by show some (Value.bool a.b1) = _; rw [q1])
    have Q1 := Aside0.mk q1
    clear q1
    cases q2 : s.b1 with
    | true =>
      have cs1 := (blk_cell HS.out 1).trans (show s.cells[1]? = some (.bool true) by show some (Value.bool s.b1) = _; rw [q2])
      have Q2 := Aside0.mk q2
      clear q2
      go_wp2
      go_ret
      exact ⟨by rw [HO.out, HL.out, show decideI sh a s o lf = 3 by unfold decideI; rw [if_neg (by rw [Q1.out]; decide), if_pos Q2.out]]; rfl, HBF.out⟩
    | false =>
      have cs1 := (blk_cell HS.out 1).trans (show s.cells[1]? = some (.bool false) by show some (Value.bool s.b1) = _; rw [q2])
      have Q2 := Aside0.mk q2
      clear q2
      cases q3 : a.h0 with
      | false =>
        have ca11 := (blk_cell HA.out 11).trans (show a.cells[11]? = some (.bool false) by show some (Value.bool a.h0) = _; rw [q3])
        have Q3 := Aside0.mk q3
        clear q3
        have ca18 := (blk_cell HA.out 18).trans (show a.cells[18]? = some (.int .i64 a.n3) from rfl)
        by_cases q4 : addI o a.n3 < lf
        · have q5 : decide (addI o a.n3 < lf) = true := decide_eq_true q4
          have Q4 := Aside0.mk q4
          clear q4
          go_wp2_with (go_at_call 21; (with_reducible refine (bits_Add.calls o a.n3 _ _ (Add_is o a.n3)).mono ?_); rintro e w5 ⟨rfl, hb⟩; have n0_ := Aside0.mk (HBF.out.trans (hb.mono HBF.out.size)); have n1_ := Aside0.mk (blk_below HA.out hb); have n2_ := Aside0.mk (blk_below HS.out hb); clear HBF HA HS hb; have HBF := n0_; have HA := n1_; have HS := n2_; clear n0_ n1_ n2_)
          go_ret
          exact ⟨by rw [HO.out, HL.out, show decideI sh a s o lf = 1 by unfold decideI; rw [if_neg (by rw [Q1.out]; decide), if_neg (by rw [Q2.out]; decide), if_neg (by rw [Q3.out]; simp), if_pos (by have := Q4.out; omega)]]; rfl, HBF.out⟩
        · have q5 : decide (addI o a.n3 < lf) = false := decide_eq_false q4
          have Q4 := Aside0.mk q4
          clear q4
          go_upto_region 7 with (go_at_call 21; (with_reducible refine (bits_Add.calls o a.n3 _ _ (Add_is o a.n3)).mono ?_); rintro e w5 ⟨rfl, hb⟩; have n0_ := Aside0.mk (HBF.out.trans (hb.mono HBF.out.size)); have n1_ := Aside0.mk (blk_below HA.out hb); have n2_ := Aside0.mk (blk_below HS.out hb); clear HBF HA HS hb; have HBF := n0_; have HA := n1_; have HS := n2_; clear n0_ n1_ n2_)
          clear ca1 cs1 ca18 q5
          try clear ca11
          try clear ca12
          try clear q3
          cases qs : strictB sh s with
          | true =>
            have QS := Aside0.mk qs
            clear qs
            refine start_ (n := 29) (S := fun w' => w'.heap[B0]? = some (.cells a.cells 34 (0, 0)) ∧ w'.heap[B0 + 1]? = some (.cells s.cells 34 (0, 0))) (ds := []) (lN 29 0) (by kernel_rfl) rfl rfl ⟨blk_drew HA.out, blk_drew HS.out⟩ (fun hHeld => ?_)
            have n0_ := Aside0.mk (blk_drew HA.out); have n1_ := Aside0.mk (blk_drew HS.out); have n2_ := Aside0.mk (below_drew1 HBF.out); clear HA HS HBF; have HA := n0_; have HS := n1_; have HBF := n2_; clear n0_ n1_ n2_
            generalize World.drew _ = wd at HA HS HBF hHeld ⊢
            refine pure_ (i := 0) (N := some 49) (v := .bool sh) (lN 29 1) rfl rfl (by kernel_rfl) (fun _ _ _ h => h) (Or.inl ⟨by kernel_rfl, fun w' => by kernel_rfl⟩) rfl ?_
            simp only [Act.put, List.setIfInBounds_toArray, List.set_cons_zero, List.set_cons_succ]
            refine take_ (i := 1) (N := some 50) (v := .agg s.cells) (lN 29 2) rfl rfl (by kernel_rfl) (fun _ _ _ h => h) (Or.inl ⟨by kernel_rfl, fun w' hs => us_load 34 (run_loadVar_row w' (B0 + 1) 34 34 s.cells (0, 0) _ hs.2 hu35 rfl (cc_info.trans HSS.out)) rfl rfl⟩) hHeld rfl ?_
            simp only [Act.put, List.setIfInBounds_toArray, List.set_cons_zero, List.set_cons_succ]
            refine one_ (i := 2) (N := some 51) (lN 29 3) rfl rfl (by kernel_rfl) (by decide) (fun K hK => ?_)
            refine goes_ Tryd.func22 (by kernel_rfl) rfl #[.bool sh, .agg s.cells] (by kernel_rfl) rfl rfl (by first | rfl | (simp only [List.map_toArray, List.map_cons, List.map_nil]; rfl)) ?_
            with_reducible refine (use_strict.own sh s _).mono ?_
            rintro e wn2 ⟨rfl, hb⟩
            refine ⟨.bool (strictB sh s), rfl, ?_⟩
            have n0_ := Aside0.mk (HBF.out.trans (hb.mono HBF.out.size)); have n1_ := Aside0.mk (blk_below HA.out hb); have n2_ := Aside0.mk (blk_below HS.out hb); clear HBF HA HS hb; have HBF := n0_; have HA := n1_; have HS := n2_; clear n0_ n1_ n2_; clear hHeld
            refine hK.out _ _ ⟨HA.out, HS.out⟩ (fun hHeld => ?_)
            clear hK K
            rw [QS.out]
            simp only [Act.put, List.setIfInBounds_toArray, List.set_cons_zero, List.set_cons_succ]
            refine pure_ (i := 3) (N := some 52) (v := .bool false) (lN 29 4) rfl rfl (by kernel_rfl) (fun _ _ _ h => h) (Or.inl ⟨by kernel_rfl, fun w' => by kernel_rfl⟩) rfl ?_
            simp only [Act.put, List.setIfInBounds_toArray, List.set_cons_zero, List.set_cons_succ]
            refine pure_ (i := 4) (N := some 53) (v := .bool false) (lN 29 5) rfl rfl (by kernel_rfl) (fun _ _ _ h => h) (Or.inl ⟨by kernel_rfl, fun w' => by kernel_rfl⟩) rfl ?_
            simp only [Act.put, List.setIfInBounds_toArray, List.set_cons_zero, List.set_cons_succ]
            refine pure_ (i := 5) (N := some 54) (v := undef) (lN 29 6) rfl rfl (by kernel_rfl) (fun _ _ _ h => h) (Or.inr ⟨by kernel_rfl, rfl⟩) rfl ?_
            simp only [Act.put, List.setIfInBounds_toArray, List.set_cons_zero, List.set_cons_succ]
            refine pure_ (i := 6) (N := some 55) (v := undef) (lN 29 7) rfl rfl (by kernel_rfl) (fun _ _ _ h => h) (Or.inr ⟨by kernel_rfl, rfl⟩) rfl ?_
            simp only [Act.put, List.setIfInBounds_toArray, List.set_cons_zero, List.set_cons_succ]
            refine pure_ (i := 7) (N := some 56) (v := undef) (lN 29 8) rfl rfl (by kernel_rfl) (fun _ _ _ h => h) (Or.inr ⟨by kernel_rfl, rfl⟩) rfl ?_
            simp only [Act.put, List.setIfInBounds_toArray, List.set_cons_zero, List.set_cons_succ]
            refine pure_ (i := 8) (N := some 57) (v := undef) (lN 29 9) rfl rfl (by kernel_rfl) (fun _ _ _ h => h) (Or.inr ⟨by kernel_rfl, rfl⟩) rfl ?_
            simp only [Act.put, List.setIfInBounds_toArray, List.set_cons_zero, List.set_cons_succ]
            refine pure_ (i := 9) (N := some 58) (v := .bool false) (lN 29 10) rfl rfl (by kernel_rfl) (fun _ _ _ h => h) (Or.inl ⟨by kernel_rfl, fun w' => by kernel_rfl⟩) rfl ?_
            simp only [Act.put, List.setIfInBounds_toArray, List.set_cons_zero, List.set_cons_succ]
            refine pure_ (i := 10) (N := some 59) (v := .bool false) (lN 29 11) rfl rfl (by kernel_rfl) (fun _ _ _ h => h) (Or.inl ⟨by kernel_rfl, fun w' => by kernel_rfl⟩) rfl ?_
            simp only [Act.put, List.setIfInBounds_toArray, List.set_cons_zero, List.set_cons_succ]
            refine pure_ (i := 11) (N := some 60) (v := undef) (lN 29 12) rfl rfl (by kernel_rfl) (fun _ _ _ h => h) (Or.inr ⟨by kernel_rfl, rfl⟩) rfl ?_
            simp only [Act.put, List.setIfInBounds_toArray, List.set_cons_zero, List.set_cons_succ]
            refine pure_ (i := 12) (N := some 61) (v := undef) (lN 29 13) rfl rfl (by kernel_rfl) (fun _ _ _ h => h) (Or.inr ⟨by kernel_rfl, rfl⟩) rfl ?_
            simp only [Act.put, List.setIfInBounds_toArray, List.set_cons_zero, List.set_cons_succ]
            refine pure_ (i := 13) (N := some 62) (v := undef) (lN 29 14) rfl rfl (by kernel_rfl) (fun _ _ _ h => h) (Or.inr ⟨by kernel_rfl, rfl⟩) rfl ?_
            simp only [Act.put, List.setIfInBounds_toArray, List.set_cons_zero, List.set_cons_succ]
            refine pure_ (i := 14) (N := some 63) (v := undef) (lN 29 15) rfl rfl (by kernel_rfl) (fun _ _ _ h => h) (Or.inr ⟨by kernel_rfl, rfl⟩) rfl ?_
            simp only [Act.put, List.setIfInBounds_toArray, List.set_cons_zero, List.set_cons_succ]
            refine pure_ (i := 15) (N := some 64) (v := undef) (lN 29 16) rfl rfl (by kernel_rfl) (fun _ _ _ h => h) (Or.inr ⟨by kernel_rfl, rfl⟩) rfl ?_
            simp only [Act.put, List.setIfInBounds_toArray, List.set_cons_zero, List.set_cons_succ]
            refine pure_ (i := 16) (N := some 65) (v := undef) (lN 29 17) rfl rfl (by kernel_rfl) (fun _ _ _ h => h) (Or.inr ⟨by kernel_rfl, rfl⟩) rfl ?_
            simp only [Act.put, List.setIfInBounds_toArray, List.set_cons_zero, List.set_cons_succ]
            refine pure_ (i := 17) (N := some 66) (v := undef) (lN 29 18) rfl rfl (by kernel_rfl) (fun _ _ _ h => h) (Or.inr ⟨by kernel_rfl, rfl⟩) rfl ?_
            simp only [Act.put, List.setIfInBounds_toArray, List.set_cons_zero, List.set_cons_succ]
            refine pure_ (i := 18) (N := some 67) (v := undef) (lN 29 19) rfl rfl (by kernel_rfl) (fun _ _ _ h => h) (Or.inr ⟨by kernel_rfl, rfl⟩) rfl ?_
            simp only [Act.put, List.setIfInBounds_toArray, List.set_cons_zero, List.set_cons_succ]
            refine pure_ (i := 19) (N := some 68) (v := undef) (lN 29 20) rfl rfl (by kernel_rfl) (fun _ _ _ h => h) (Or.inr ⟨by kernel_rfl, rfl⟩) rfl ?_
            simp only [Act.put, List.setIfInBounds_toArray, List.set_cons_zero, List.set_cons_succ]
            refine pure_ (i := 20) (N := some 69) (v := undef) (lN 29 21) rfl rfl (by kernel_rfl) (fun _ _ _ h => h) (Or.inr ⟨by kernel_rfl, rfl⟩) rfl ?_
            simp only [Act.put, List.setIfInBounds_toArray, List.set_cons_zero, List.set_cons_succ]
            refine pure_ (i := 21) (N := some 70) (v := undef) (lN 29 22) rfl rfl (by kernel_rfl) (fun _ _ _ h => h) (Or.inr ⟨by kernel_rfl, rfl⟩) rfl ?_
            simp only [Act.put, List.setIfInBounds_toArray, List.set_cons_zero, List.set_cons_succ]
            refine pure_ (i := 22) (N := some 71) (v := undef) (lN 29 23) rfl rfl (by kernel_rfl) (fun _ _ _ h => h) (Or.inr ⟨by kernel_rfl, rfl⟩) rfl ?_
            simp only [Act.put, List.setIfInBounds_toArray, List.set_cons_zero, List.set_cons_succ]
            refine pure_ (i := 23) (N := some 72) (v := undef) (lN 29 24) rfl rfl (by kernel_rfl) (fun _ _ _ h => h) (Or.inr ⟨by kernel_rfl, rfl⟩) rfl ?_
            simp only [Act.put, List.setIfInBounds_toArray, List.set_cons_zero, List.set_cons_succ]
            refine pure_ (i := 24) (N := some 73) (v := undef) (lN 29 25) rfl rfl (by kernel_rfl) (fun _ _ _ h => h) (Or.inr ⟨by kernel_rfl, rfl⟩) rfl ?_
            simp only [Act.put, List.setIfInBounds_toArray, List.set_cons_zero, List.set_cons_succ]
            refine pure_ (i := 25) (N := some 74) (v := undef) (lN 29 26) rfl rfl (by kernel_rfl) (fun _ _ _ h => h) (Or.inr ⟨by kernel_rfl, rfl⟩) rfl ?_
            simp only [Act.put, List.setIfInBounds_toArray, List.set_cons_zero, List.set_cons_succ]
            refine pure_ (i := 26) (N := some 75) (v := undef) (lN 29 27) rfl rfl (by kernel_rfl) (fun _ _ _ h => h) (Or.inr ⟨by kernel_rfl, rfl⟩) rfl ?_
            simp only [Act.put, List.setIfInBounds_toArray, List.set_cons_zero, List.set_cons_succ]
            refine pure_ (i := 27) (N := some 76) (v := .bool false) (lN 29 28) rfl rfl (by kernel_rfl) (fun _ _ _ h => h) (Or.inl ⟨by kernel_rfl, fun w' => by kernel_rfl⟩) rfl ?_
            simp only [Act.put, List.setIfInBounds_toArray, List.set_cons_zero, List.set_cons_succ]
            refine pure_ (i := 28) (N := some 48) (v := .bool false) (lN 29 29) rfl rfl (by kernel_rfl) (fun _ _ _ h => h) (Or.inl ⟨by kernel_rfl, fun w' => by kernel_rfl⟩) rfl ?_
            simp only [Act.put, List.setIfInBounds_toArray, List.set_cons_zero, List.set_cons_succ]
            refine done_ (by kernel_rfl) ?_
            go_wp2
            go_ret
            exact ⟨by rw [HO.out, HL.out, show decideI sh a s o lf = 3 by unfold decideI; rw [if_neg (by rw [Q1.out]; decide), if_neg (by rw [Q2.out]; decide), if_neg (by rw [Q3.out]; simp), if_neg (by have := Q4.out; omega), if_pos QS.out]]; rfl, HBF.out⟩
          | false =>
            have QS := Aside0.mk qs
            clear qs
            cases qh : a.h3 with
            | true =>
              have Qh3 := Aside0.mk qh
              clear qh
              refine start_ (n := 29) (S := fun w' => w'.heap[B0]? = some (.cells a.cells 34 (0, 0)) ∧ w'.heap[B0 + 1]? = some (.cells s.cells 34 (0, 0))) (ds := []) (lN 29 0) (by kernel_rfl) rfl rfl ⟨blk_drew HA.out, blk_drew HS.out⟩ (fun hHeld => ?_)
              have n0_ := Aside0.mk (blk_drew HA.out); have n1_ := Aside0.mk (blk_drew HS.out); have n2_ := Aside0.mk (below_drew1 HBF.out); clear HA HS HBF; have HA := n0_; have HS := n1_; have HBF := n2_; clear n0_ n1_ n2_
              generalize World.drew _ = wd at HA HS HBF hHeld ⊢
              refine pure_ (i := 0) (N := some 49) (v := .bool sh) (lN 29 1) rfl rfl (by kernel_rfl) (fun _ _ _ h => h) (Or.inl ⟨by kernel_rfl, fun w' => by kernel_rfl⟩) rfl ?_
              simp only [Act.put, List.setIfInBounds_toArray, List.set_cons_zero, List.set_cons_succ]
              refine take_ (i := 1) (N := some 50) (v := .agg s.cells) (lN 29 2) rfl rfl (by kernel_rfl) (fun _ _ _ h => h) (Or.inl ⟨by kernel_rfl, fun w' hs => us_load 34 (run_loadVar_row w' (B0 + 1) 34 34 s.cells (0, 0) _ hs.2 hu35 rfl (cc_info.trans HSS.out)) rfl rfl⟩) hHeld rfl ?_
              simp only [Act.put, List.setIfInBounds_toArray, List.set_cons_zero, List.set_cons_succ]
              refine one_ (i := 2) (N := some 51) (lN 29 3) rfl rfl (by kernel_rfl) (by decide) (fun K hK => ?_)
              refine goes_ Tryd.func22 (by kernel_rfl) rfl #[.bool sh, .agg s.cells] (by kernel_rfl) rfl rfl (by first | rfl | (simp only [List.map_toArray, List.map_cons, List.map_nil]; rfl)) ?_
              with_reducible refine (use_strict.own sh s _).mono ?_
              rintro e wn2 ⟨rfl, hb⟩
              refine ⟨.bool (strictB sh s), rfl, ?_⟩
              have n0_ := Aside0.mk (HBF.out.trans (hb.mono HBF.out.size)); have n1_ := Aside0.mk (blk_below HA.out hb); have n2_ := Aside0.mk (blk_below HS.out hb); clear HBF HA HS hb; have HBF := n0_; have HA := n1_; have HS := n2_; clear n0_ n1_ n2_; clear hHeld
              refine hK.out _ _ ⟨HA.out, HS.out⟩ (fun hHeld => ?_)
              clear hK K
              rw [QS.out]
              simp only [Act.put, List.setIfInBounds_toArray, List.set_cons_zero, List.set_cons_succ]
              refine pure_ (i := 3) (N := some 52) (v := .bool true) (lN 29 4) rfl rfl (by kernel_rfl) (fun _ _ _ h => h) (Or.inl ⟨by kernel_rfl, fun w' => by kernel_rfl⟩) rfl ?_
              simp only [Act.put, List.setIfInBounds_toArray, List.set_cons_zero, List.set_cons_succ]
              refine pure_ (i := 4) (N := some 53) (v := .bool true) (lN 29 5) rfl rfl (by kernel_rfl) (fun _ _ _ h => h) (Or.inl ⟨by kernel_rfl, fun w' => by kernel_rfl⟩) rfl ?_
              simp only [Act.put, List.setIfInBounds_toArray, List.set_cons_zero, List.set_cons_succ]
              refine pure_ (i := 5) (N := some 54) (v := .pointer (some ⟨B0, 17, none⟩)) (lN 29 6) rfl rfl (by kernel_rfl) (fun _ _ _ h => h) (Or.inl ⟨by kernel_rfl, fun w' => by kernel_rfl⟩) rfl ?_
              simp only [Act.put, List.setIfInBounds_toArray, List.set_cons_zero, List.set_cons_succ]
              refine pure_ (i := 6) (N := some 55) (v := .pointer (some ⟨B0, 17, none⟩)) (lN 29 7) rfl rfl (by kernel_rfl) (fun _ _ _ h => h) (Or.inl ⟨by kernel_rfl, fun w' => by kernel_rfl⟩) rfl ?_
              simp only [Act.put, List.setIfInBounds_toArray, List.set_cons_zero, List.set_cons_succ]
              refine take_ (i := 7) (N := some 56) (v := .bool true) (lN 29 8) rfl rfl (by kernel_rfl) (fun _ _ _ h => h) (Or.inl ⟨by kernel_rfl, fun w' hs => us_load 4 (us_bool ((blk_cell hs.1 17).trans (show a.cells[17]? = some (.bool true) by show some (Value.bool a.h3) = _; rw [Qh3.out]))) rfl rfl⟩) hHeld rfl ?_
              simp only [Act.put, List.setIfInBounds_toArray, List.set_cons_zero, List.set_cons_succ]
              refine pure_ (i := 8) (N := some 57) (v := .bool false) (lN 29 9) rfl rfl (by kernel_rfl) (fun _ _ _ h => h) (Or.inl ⟨by kernel_rfl, fun w' => by kernel_rfl⟩) rfl ?_
              simp only [Act.put, List.setIfInBounds_toArray, List.set_cons_zero, List.set_cons_succ]
              refine pure_ (i := 9) (N := some 58) (v := .bool false) (lN 29 10) rfl rfl (by kernel_rfl) (fun _ _ _ h => h) (Or.inl ⟨by kernel_rfl, fun w' => by kernel_rfl⟩) rfl ?_
              simp only [Act.put, List.setIfInBounds_toArray, List.set_cons_zero, List.set_cons_succ]
              refine pure_ (i := 10) (N := some 59) (v := .bool false) (lN 29 11) rfl rfl (by kernel_rfl) (fun _ _ _ h => h) (Or.inl ⟨by kernel_rfl, fun w' => by kernel_rfl⟩) rfl ?_
              simp only [Act.put, List.setIfInBounds_toArray, List.set_cons_zero, List.set_cons_succ]
              refine pure_ (i := 11) (N := some 60) (v := undef) (lN 29 12) rfl rfl (by kernel_rfl) (fun _ _ _ h => h) (Or.inr ⟨by kernel_rfl, rfl⟩) rfl ?_
              simp only [Act.put, List.setIfInBounds_toArray, List.set_cons_zero, List.set_cons_succ]
              refine pure_ (i := 12) (N := some 61) (v := undef) (lN 29 13) rfl rfl (by kernel_rfl) (fun _ _ _ h => h) (Or.inr ⟨by kernel_rfl, rfl⟩) rfl ?_
              simp only [Act.put, List.setIfInBounds_toArray, List.set_cons_zero, List.set_cons_succ]
              refine pure_ (i := 13) (N := some 62) (v := undef) (lN 29 14) rfl rfl (by kernel_rfl) (fun _ _ _ h => h) (Or.inr ⟨by kernel_rfl, rfl⟩) rfl ?_
              simp only [Act.put, List.setIfInBounds_toArray, List.set_cons_zero, List.set_cons_succ]
              refine pure_ (i := 14) (N := some 63) (v := undef) (lN 29 15) rfl rfl (by kernel_rfl) (fun _ _ _ h => h) (Or.inr ⟨by kernel_rfl, rfl⟩) rfl ?_
              simp only [Act.put, List.setIfInBounds_toArray, List.set_cons_zero, List.set_cons_succ]
              refine pure_ (i := 15) (N := some 64) (v := undef) (lN 29 16) rfl rfl (by kernel_rfl) (fun _ _ _ h => h) (Or.inr ⟨by kernel_rfl, rfl⟩) rfl ?_
              simp only [Act.put, List.setIfInBounds_toArray, List.set_cons_zero, List.set_cons_succ]
              refine pure_ (i := 16) (N := some 65) (v := undef) (lN 29 17) rfl rfl (by kernel_rfl) (fun _ _ _ h => h) (Or.inr ⟨by kernel_rfl, rfl⟩) rfl ?_
              simp only [Act.put, List.setIfInBounds_toArray, List.set_cons_zero, List.set_cons_succ]
              refine pure_ (i := 17) (N := some 66) (v := undef) (lN 29 18) rfl rfl (by kernel_rfl) (fun _ _ _ h => h) (Or.inr ⟨by kernel_rfl, rfl⟩) rfl ?_
              simp only [Act.put, List.setIfInBounds_toArray, List.set_cons_zero, List.set_cons_succ]
              refine pure_ (i := 18) (N := some 67) (v := undef) (lN 29 19) rfl rfl (by kernel_rfl) (fun _ _ _ h => h) (Or.inr ⟨by kernel_rfl, rfl⟩) rfl ?_
              simp only [Act.put, List.setIfInBounds_toArray, List.set_cons_zero, List.set_cons_succ]
              refine pure_ (i := 19) (N := some 68) (v := undef) (lN 29 20) rfl rfl (by kernel_rfl) (fun _ _ _ h => h) (Or.inr ⟨by kernel_rfl, rfl⟩) rfl ?_
              simp only [Act.put, List.setIfInBounds_toArray, List.set_cons_zero, List.set_cons_succ]
              refine pure_ (i := 20) (N := some 69) (v := undef) (lN 29 21) rfl rfl (by kernel_rfl) (fun _ _ _ h => h) (Or.inr ⟨by kernel_rfl, rfl⟩) rfl ?_
              simp only [Act.put, List.setIfInBounds_toArray, List.set_cons_zero, List.set_cons_succ]
              refine pure_ (i := 21) (N := some 70) (v := undef) (lN 29 22) rfl rfl (by kernel_rfl) (fun _ _ _ h => h) (Or.inr ⟨by kernel_rfl, rfl⟩) rfl ?_
              simp only [Act.put, List.setIfInBounds_toArray, List.set_cons_zero, List.set_cons_succ]
              refine pure_ (i := 22) (N := some 71) (v := undef) (lN 29 23) rfl rfl (by kernel_rfl) (fun _ _ _ h => h) (Or.inr ⟨by kernel_rfl, rfl⟩) rfl ?_
              simp only [Act.put, List.setIfInBounds_toArray, List.set_cons_zero, List.set_cons_succ]
              refine pure_ (i := 23) (N := some 72) (v := undef) (lN 29 24) rfl rfl (by kernel_rfl) (fun _ _ _ h => h) (Or.inr ⟨by kernel_rfl, rfl⟩) rfl ?_
              simp only [Act.put, List.setIfInBounds_toArray, List.set_cons_zero, List.set_cons_succ]
              refine pure_ (i := 24) (N := some 73) (v := undef) (lN 29 25) rfl rfl (by kernel_rfl) (fun _ _ _ h => h) (Or.inr ⟨by kernel_rfl, rfl⟩) rfl ?_
              simp only [Act.put, List.setIfInBounds_toArray, List.set_cons_zero, List.set_cons_succ]
              refine pure_ (i := 25) (N := some 74) (v := undef) (lN 29 26) rfl rfl (by kernel_rfl) (fun _ _ _ h => h) (Or.inr ⟨by kernel_rfl, rfl⟩) rfl ?_
              simp only [Act.put, List.setIfInBounds_toArray, List.set_cons_zero, List.set_cons_succ]
              refine pure_ (i := 26) (N := some 75) (v := undef) (lN 29 27) rfl rfl (by kernel_rfl) (fun _ _ _ h => h) (Or.inr ⟨by kernel_rfl, rfl⟩) rfl ?_
              simp only [Act.put, List.setIfInBounds_toArray, List.set_cons_zero, List.set_cons_succ]
              refine pure_ (i := 27) (N := some 76) (v := .bool false) (lN 29 28) rfl rfl (by kernel_rfl) (fun _ _ _ h => h) (Or.inl ⟨by kernel_rfl, fun w' => by kernel_rfl⟩) rfl ?_
              simp only [Act.put, List.setIfInBounds_toArray, List.set_cons_zero, List.set_cons_succ]
              refine pure_ (i := 28) (N := some 48) (v := .bool false) (lN 29 29) rfl rfl (by kernel_rfl) (fun _ _ _ h => h) (Or.inl ⟨by kernel_rfl, fun w' => by kernel_rfl⟩) rfl ?_
              simp only [Act.put, List.setIfInBounds_toArray, List.set_cons_zero, List.set_cons_succ]
              refine done_ (by kernel_rfl) ?_
              go_wp2
              go_ret
              exact ⟨by rw [HO.out, HL.out, show decideI sh a s o lf = 3 by unfold decideI; rw [if_neg (by rw [Q1.out]; decide), if_neg (by rw [Q2.out]; decide), if_neg (by rw [Q3.out]; simp), if_neg (by have := Q4.out; omega), if_neg (by rw [QS.out]; decide), if_pos Qh3.out]]; rfl, HBF.out⟩
            | false =>
              have Qh3 := Aside0.mk qh
              clear qh
              cases qb : a.b10 with
              | true =>
                have Qb10 := Aside0.mk qb
                clear qb
                refine start_ (n := 29) (S := fun w' => w'.heap[B0]? = some (.cells a.cells 34 (0, 0)) ∧ w'.heap[B0 + 1]? = some (.cells s.cells 34 (0, 0))) (ds := []) (lN 29 0) (by kernel_rfl) rfl rfl ⟨blk_drew HA.out, blk_drew HS.out⟩ (fun hHeld => ?_)
                have n0_ := Aside0.mk (blk_drew HA.out); have n1_ := Aside0.mk (blk_drew HS.out); have n2_ := Aside0.mk (below_drew1 HBF.out); clear HA HS HBF; have HA := n0_; have HS := n1_; have HBF := n2_; clear n0_ n1_ n2_
                generalize World.drew _ = wd at HA HS HBF hHeld ⊢
                refine pure_ (i := 0) (N := some 49) (v := .bool sh) (lN 29 1) rfl rfl (by kernel_rfl) (fun _ _ _ h => h) (Or.inl ⟨by kernel_rfl, fun w' => by kernel_rfl⟩) rfl ?_
                simp only [Act.put, List.setIfInBounds_toArray, List.set_cons_zero, List.set_cons_succ]
                refine take_ (i := 1) (N := some 50) (v := .agg s.cells) (lN 29 2) rfl rfl (by kernel_rfl) (fun _ _ _ h => h) (Or.inl ⟨by kernel_rfl, fun w' hs => us_load 34 (run_loadVar_row w' (B0 + 1) 34 34 s.cells (0, 0) _ hs.2 hu35 rfl (cc_info.trans HSS.out)) rfl rfl⟩) hHeld rfl ?_
                simp only [Act.put, List.setIfInBounds_toArray, List.set_cons_zero, List.set_cons_succ]
                refine one_ (i := 2) (N := some 51) (lN 29 3) rfl rfl (by kernel_rfl) (by decide) (fun K hK => ?_)
                refine goes_ Tryd.func22 (by kernel_rfl) rfl #[.bool sh, .agg s.cells] (by kernel_rfl) rfl rfl (by first | rfl | (simp only [List.map_toArray, List.map_cons, List.map_nil]; rfl)) ?_
                with_reducible refine (use_strict.own sh s _).mono ?_
                rintro e wn2 ⟨rfl, hb⟩
                refine ⟨.bool (strictB sh s), rfl, ?_⟩
                have n0_ := Aside0.mk (HBF.out.trans (hb.mono HBF.out.size)); have n1_ := Aside0.mk (blk_below HA.out hb); have n2_ := Aside0.mk (blk_below HS.out hb); clear HBF HA HS hb; have HBF := n0_; have HA := n1_; have HS := n2_; clear n0_ n1_ n2_; clear hHeld
                refine hK.out _ _ ⟨HA.out, HS.out⟩ (fun hHeld => ?_)
                clear hK K
                rw [QS.out]
                simp only [Act.put, List.setIfInBounds_toArray, List.set_cons_zero, List.set_cons_succ]
                refine pure_ (i := 3) (N := some 52) (v := .bool true) (lN 29 4) rfl rfl (by kernel_rfl) (fun _ _ _ h => h) (Or.inl ⟨by kernel_rfl, fun w' => by kernel_rfl⟩) rfl ?_
                simp only [Act.put, List.setIfInBounds_toArray, List.set_cons_zero, List.set_cons_succ]
                refine pure_ (i := 4) (N := some 53) (v := .bool true) (lN 29 5) rfl rfl (by kernel_rfl) (fun _ _ _ h => h) (Or.inl ⟨by kernel_rfl, fun w' => by kernel_rfl⟩) rfl ?_
                simp only [Act.put, List.setIfInBounds_toArray, List.set_cons_zero, List.set_cons_succ]
                refine pure_ (i := 5) (N := some 54) (v := .pointer (some ⟨B0, 17, none⟩)) (lN 29 6) rfl rfl (by kernel_rfl) (fun _ _ _ h => h) (Or.inl ⟨by kernel_rfl, fun w' => by kernel_rfl⟩) rfl ?_
                simp only [Act.put, List.setIfInBounds_toArray, List.set_cons_zero, List.set_cons_succ]
                refine pure_ (i := 6) (N := some 55) (v := .pointer (some ⟨B0, 17, none⟩)) (lN 29 7) rfl rfl (by kernel_rfl) (fun _ _ _ h => h) (Or.inl ⟨by kernel_rfl, fun w' => by kernel_rfl⟩) rfl ?_
                simp only [Act.put, List.setIfInBounds_toArray, List.set_cons_zero, List.set_cons_succ]
                refine take_ (i := 7) (N := some 56) (v := .bool false) (lN 29 8) rfl rfl (by kernel_rfl) (fun _ _ _ h => h) (Or.inl ⟨by kernel_rfl, fun w' hs => us_load 4 (us_bool ((blk_cell hs.1 17).trans (show a.cells[17]? = some (.bool false) by show some (Value.bool a.h3) = _; rw [Qh3.out]))) rfl rfl⟩) hHeld rfl ?_
                simp only [Act.put, List.setIfInBounds_toArray, List.set_cons_zero, List.set_cons_succ]
                refine pure_ (i := 8) (N := some 57) (v := .bool true) (lN 29 9) rfl rfl (by kernel_rfl) (fun _ _ _ h => h) (Or.inl ⟨by kernel_rfl, fun w' => by kernel_rfl⟩) rfl ?_
                simp only [Act.put, List.setIfInBounds_toArray, List.set_cons_zero, List.set_cons_succ]
                refine pure_ (i := 9) (N := some 58) (v := .bool true) (lN 29 10) rfl rfl (by kernel_rfl) (fun _ _ _ h => h) (Or.inl ⟨by kernel_rfl, fun w' => by kernel_rfl⟩) rfl ?_
                simp only [Act.put, List.setIfInBounds_toArray, List.set_cons_zero, List.set_cons_succ]
                refine pure_ (i := 10) (N := some 59) (v := .bool true) (lN 29 11) rfl rfl (by kernel_rfl) (fun _ _ _ h => h) (Or.inl ⟨by kernel_rfl, fun w' => by kernel_rfl⟩) rfl ?_
                simp only [Act.put, List.setIfInBounds_toArray, List.set_cons_zero, List.set_cons_succ]
                refine pure_ (i := 11) (N := some 60) (v := .pointer (some ⟨B0, 10, none⟩)) (lN 29 12) rfl rfl (by kernel_rfl) (fun _ _ _ h => h) (Or.inl ⟨by kernel_rfl, fun w' => by kernel_rfl⟩) rfl ?_
                simp only [Act.put, List.setIfInBounds_toArray, List.set_cons_zero, List.set_cons_succ]
                refine take_ (i := 12) (N := some 61) (v := .bool true) (lN 29 13) rfl rfl (by kernel_rfl) (fun _ _ _ h => h) (Or.inl ⟨by kernel_rfl, fun w' hs => us_load 4 (us_bool ((blk_cell hs.1 10).trans (show a.cells[10]? = some (.bool true) by show some (Value.bool a.b10) = _; rw [Qb10.out]))) rfl rfl⟩) hHeld rfl ?_
                simp only [Act.put, List.setIfInBounds_toArray, List.set_cons_zero, List.set_cons_succ]
                refine pure_ (i := 13) (N := some 62) (v := .bool true) (lN 29 14) rfl rfl (by kernel_rfl) (fun _ _ _ h => h) (Or.inl ⟨by kernel_rfl, fun w' => by kernel_rfl⟩) rfl ?_
                simp only [Act.put, List.setIfInBounds_toArray, List.set_cons_zero, List.set_cons_succ]
                refine pure_ (i := 14) (N := some 63) (v := undef) (lN 29 15) rfl rfl (by kernel_rfl) (fun _ _ _ h => h) (Or.inr ⟨by kernel_rfl, rfl⟩) rfl ?_
                simp only [Act.put, List.setIfInBounds_toArray, List.set_cons_zero, List.set_cons_succ]
                refine pure_ (i := 15) (N := some 64) (v := undef) (lN 29 16) rfl rfl (by kernel_rfl) (fun _ _ _ h => h) (Or.inr ⟨by kernel_rfl, rfl⟩) rfl ?_
                simp only [Act.put, List.setIfInBounds_toArray, List.set_cons_zero, List.set_cons_succ]
                refine pure_ (i := 16) (N := some 65) (v := undef) (lN 29 17) rfl rfl (by kernel_rfl) (fun _ _ _ h => h) (Or.inr ⟨by kernel_rfl, rfl⟩) rfl ?_
                simp only [Act.put, List.setIfInBounds_toArray, List.set_cons_zero, List.set_cons_succ]
                refine pure_ (i := 17) (N := some 66) (v := undef) (lN 29 18) rfl rfl (by kernel_rfl) (fun _ _ _ h => h) (Or.inr ⟨by kernel_rfl, rfl⟩) rfl ?_
                simp only [Act.put, List.setIfInBounds_toArray, List.set_cons_zero, List.set_cons_succ]
                refine pure_ (i := 18) (N := some 67) (v := undef) (lN 29 19) rfl rfl (by kernel_rfl) (fun _ _ _ h => h) (Or.inr ⟨by kernel_rfl, rfl⟩) rfl ?_
                simp only [Act.put, List.setIfInBounds_toArray, List.set_cons_zero, List.set_cons_succ]
                refine pure_ (i := 19) (N := some 68) (v := undef) (lN 29 20) rfl rfl (by kernel_rfl) (fun _ _ _ h => h) (Or.inr ⟨by kernel_rfl, rfl⟩) rfl ?_
                simp only [Act.put, List.setIfInBounds_toArray, List.set_cons_zero, List.set_cons_succ]
                refine pure_ (i := 20) (N := some 69) (v := undef) (lN 29 21) rfl rfl (by kernel_rfl) (fun _ _ _ h => h) (Or.inr ⟨by kernel_rfl, rfl⟩) rfl ?_
                simp only [Act.put, List.setIfInBounds_toArray, List.set_cons_zero, List.set_cons_succ]
                refine pure_ (i := 21) (N := some 70) (v := undef) (lN 29 22) rfl rfl (by kernel_rfl) (fun _ _ _ h => h) (Or.inr ⟨by kernel_rfl, rfl⟩) rfl ?_
                simp only [Act.put, List.setIfInBounds_toArray, List.set_cons_zero, List.set_cons_succ]
                refine pure_ (i := 22) (N := some 71) (v := undef) (lN 29 23) rfl rfl (by kernel_rfl) (fun _ _ _ h => h) (Or.inr ⟨by kernel_rfl, rfl⟩) rfl ?_
                simp only [Act.put, List.setIfInBounds_toArray, List.set_cons_zero, List.set_cons_succ]
                refine pure_ (i := 23) (N := some 72) (v := undef) (lN 29 24) rfl rfl (by kernel_rfl) (fun _ _ _ h => h) (Or.inr ⟨by kernel_rfl, rfl⟩) rfl ?_
                simp only [Act.put, List.setIfInBounds_toArray, List.set_cons_zero, List.set_cons_succ]
                refine pure_ (i := 24) (N := some 73) (v := undef) (lN 29 25) rfl rfl (by kernel_rfl) (fun _ _ _ h => h) (Or.inr ⟨by kernel_rfl, rfl⟩) rfl ?_
                simp only [Act.put, List.setIfInBounds_toArray, List.set_cons_zero, List.set_cons_succ]
                refine pure_ (i := 25) (N := some 74) (v := undef) (lN 29 26) rfl rfl (by kernel_rfl) (fun _ _ _ h => h) (Or.inr ⟨by kernel_rfl, rfl⟩) rfl ?_
                simp only [Act.put, List.setIfInBounds_toArray, List.set_cons_zero, List.set_cons_succ]
                refine pure_ (i := 26) (N := some 75) (v := .bool true) (lN 29 27) rfl rfl (by kernel_rfl) (fun _ _ _ h => h) (Or.inl ⟨by kernel_rfl, fun w' => by kernel_rfl⟩) rfl ?_
                simp only [Act.put, List.setIfInBounds_toArray, List.set_cons_zero, List.set_cons_succ]
                refine pure_ (i := 27) (N := some 76) (v := .bool true) (lN 29 28) rfl rfl (by kernel_rfl) (fun _ _ _ h => h) (Or.inl ⟨by kernel_rfl, fun w' => by kernel_rfl⟩) rfl ?_
                simp only [Act.put, List.setIfInBounds_toArray, List.set_cons_zero, List.set_cons_succ]
                refine pure_ (i := 28) (N := some 48) (v := .bool true) (lN 29 29) rfl rfl (by kernel_rfl) (fun _ _ _ h => h) (Or.inl ⟨by kernel_rfl, fun w' => by kernel_rfl⟩) rfl ?_
                simp only [Act.put, List.setIfInBounds_toArray, List.set_cons_zero, List.set_cons_succ]
                refine done_ (by kernel_rfl) ?_
                go_wp2
                go_ret
                exact ⟨by rw [HO.out, HL.out, show decideI sh a s o lf = 2 by unfold decideI; rw [if_neg (by rw [Q1.out]; decide), if_neg (by rw [Q2.out]; decide), if_neg (by rw [Q3.out]; simp), if_neg (by have := Q4.out; omega), if_neg (by rw [QS.out]; decide), if_neg (by rw [Qh3.out]; decide), if_pos Qb10.out]]; rfl, HBF.out⟩
              | false =>
                have Qb10 := Aside0.mk qb
                clear qb
                cases qg : a.h2 with
                | false =>
                  have Qh2 := Aside0.mk qg
                  clear qg
                  refine start_ (n := 29) (S := fun w' => w'.heap[B0]? = some (.cells a.cells 34 (0, 0)) ∧ w'.heap[B0 + 1]? = some (.cells s.cells 34 (0, 0))) (ds := []) (lN 29 0) (by kernel_rfl) rfl rfl ⟨blk_drew HA.out, blk_drew HS.out⟩ (fun hHeld => ?_)
                  have n0_ := Aside0.mk (blk_drew HA.out); have n1_ := Aside0.mk (blk_drew HS.out); have n2_ := Aside0.mk (below_drew1 HBF.out); clear HA HS HBF; have HA := n0_; have HS := n1_; have HBF := n2_; clear n0_ n1_ n2_
                  generalize World.drew _ = wd at HA HS HBF hHeld ⊢
                  refine pure_ (i := 0) (N := some 49) (v := .bool sh) (lN 29 1) rfl rfl (by kernel_rfl) (fun _ _ _ h => h) (Or.inl ⟨by kernel_rfl, fun w' => by kernel_rfl⟩) rfl ?_
                  simp only [Act.put, List.setIfInBounds_toArray, List.set_cons_zero, List.set_cons_succ]
                  refine take_ (i := 1) (N := some 50) (v := .agg s.cells) (lN 29 2) rfl rfl (by kernel_rfl) (fun _ _ _ h => h) (Or.inl ⟨by kernel_rfl, fun w' hs => us_load 34 (run_loadVar_row w' (B0 + 1) 34 34 s.cells (0, 0) _ hs.2 hu35 rfl (cc_info.trans HSS.out)) rfl rfl⟩) hHeld rfl ?_
                  simp only [Act.put, List.setIfInBounds_toArray, List.set_cons_zero, List.set_cons_succ]
                  refine one_ (i := 2) (N := some 51) (lN 29 3) rfl rfl (by kernel_rfl) (by decide) (fun K hK => ?_)
                  refine goes_ Tryd.func22 (by kernel_rfl) rfl #[.bool sh, .agg s.cells] (by kernel_rfl) rfl rfl (by first | rfl | (simp only [List.map_toArray, List.map_cons, List.map_nil]; rfl)) ?_
                  with_reducible refine (use_strict.own sh s _).mono ?_
                  rintro e wn2 ⟨rfl, hb⟩
                  refine ⟨.bool (strictB sh s), rfl, ?_⟩
                  have n0_ := Aside0.mk (HBF.out.trans (hb.mono HBF.out.size)); have n1_ := Aside0.mk (blk_below HA.out hb); have n2_ := Aside0.mk (blk_below HS.out hb); clear HBF HA HS hb; have HBF := n0_; have HA := n1_; have HS := n2_; clear n0_ n1_ n2_; clear hHeld
                  refine hK.out _ _ ⟨HA.out, HS.out⟩ (fun hHeld => ?_)
                  clear hK K
                  rw [QS.out]
                  simp only [Act.put, List.setIfInBounds_toArray, List.set_cons_zero, List.set_cons_succ]
                  refine pure_ (i := 3) (N := some 52) (v := .bool true) (lN 29 4) rfl rfl (by kernel_rfl) (fun _ _ _ h => h) (Or.inl ⟨by kernel_rfl, fun w' => by kernel_rfl⟩) rfl ?_
                  simp only [Act.put, List.setIfInBounds_toArray, List.set_cons_zero, List.set_cons_succ]
                  refine pure_ (i := 4) (N := some 53) (v := .bool true) (lN 29 5) rfl rfl (by kernel_rfl) (fun _ _ _ h => h) (Or.inl ⟨by kernel_rfl, fun w' => by kernel_rfl⟩) rfl ?_
                  simp only [Act.put, List.setIfInBounds_toArray, List.set_cons_zero, List.set_cons_succ]
                  refine pure_ (i := 5) (N := some 54) (v := .pointer (some ⟨B0, 17, none⟩)) (lN 29 6) rfl rfl (by kernel_rfl) (fun _ _ _ h => h) (Or.inl ⟨by kernel_rfl, fun w' => by kernel_rfl⟩) rfl ?_
                  simp only [Act.put, List.setIfInBounds_toArray, List.set_cons_zero, List.set_cons_succ]
                  refine pure_ (i := 6) (N := some 55) (v := .pointer (some ⟨B0, 17, none⟩)) (lN 29 7) rfl rfl (by kernel_rfl) (fun _ _ _ h => h) (Or.inl ⟨by kernel_rfl, fun w' => by kernel_rfl⟩) rfl ?_
                  simp only [Act.put, List.setIfInBounds_toArray, List.set_cons_zero, List.set_cons_succ]
                  refine take_ (i := 7) (N := some 56) (v := .bool false) (lN 29 8) rfl rfl (by kernel_rfl) (fun _ _ _ h => h) (Or.inl ⟨by kernel_rfl, fun w' hs => us_load 4 (us_bool ((blk_cell hs.1 17).trans (show a.cells[17]? = some (.bool false) by show some (Value.bool a.h3) = _; rw [Qh3.out]))) rfl rfl⟩) hHeld rfl ?_
                  simp only [Act.put, List.setIfInBounds_toArray, List.set_cons_zero, List.set_cons_succ]
                  refine pure_ (i := 8) (N := some 57) (v := .bool true) (lN 29 9) rfl rfl (by kernel_rfl) (fun _ _ _ h => h) (Or.inl ⟨by kernel_rfl, fun w' => by kernel_rfl⟩) rfl ?_
                  simp only [Act.put, List.setIfInBounds_toArray, List.set_cons_zero, List.set_cons_succ]
                  refine pure_ (i := 9) (N := some 58) (v := .bool true) (lN 29 10) rfl rfl (by kernel_rfl) (fun _ _ _ h => h) (Or.inl ⟨by kernel_rfl, fun w' => by kernel_rfl⟩) rfl ?_
                  simp only [Act.put, List.setIfInBounds_toArray, List.set_cons_zero, List.set_cons_succ]
                  refine pure_ (i := 10) (N := some 59) (v := .bool true) (lN 29 11) rfl rfl (by kernel_rfl) (fun _ _ _ h => h) (Or.inl ⟨by kernel_rfl, fun w' => by kernel_rfl⟩) rfl ?_
                  simp only [Act.put, List.setIfInBounds_toArray, List.set_cons_zero, List.set_cons_succ]
                  refine pure_ (i := 11) (N := some 60) (v := .pointer (some ⟨B0, 10, none⟩)) (lN 29 12) rfl rfl (by kernel_rfl) (fun _ _ _ h => h) (Or.inl ⟨by kernel_rfl, fun w' => by kernel_rfl⟩) rfl ?_
                  simp only [Act.put, List.setIfInBounds_toArray, List.set_cons_zero, List.set_cons_succ]
                  refine take_ (i := 12) (N := some 61) (v := .bool false) (lN 29 13) rfl rfl (by kernel_rfl) (fun _ _ _ h => h) (Or.inl ⟨by kernel_rfl, fun w' hs => us_load 4 (us_bool ((blk_cell hs.1 10).trans (show a.cells[10]? = some (.bool false) by show some (Value.bool a.b10) = _; rw [Qb10.out]))) rfl rfl⟩) hHeld rfl ?_
                  simp only [Act.put, List.setIfInBounds_toArray, List.set_cons_zero, List.set_cons_succ]
                  refine pure_ (i := 13) (N := some 62) (v := .bool false) (lN 29 14) rfl rfl (by kernel_rfl) (fun _ _ _ h => h) (Or.inl ⟨by kernel_rfl, fun w' => by kernel_rfl⟩) rfl ?_
                  simp only [Act.put, List.setIfInBounds_toArray, List.set_cons_zero, List.set_cons_succ]
                  refine pure_ (i := 14) (N := some 63) (v := .pointer (some ⟨B0, 15, none⟩)) (lN 29 15) rfl rfl (by kernel_rfl) (fun _ _ _ h => h) (Or.inl ⟨by kernel_rfl, fun w' => by kernel_rfl⟩) rfl ?_
                  simp only [Act.put, List.setIfInBounds_toArray, List.set_cons_zero, List.set_cons_succ]
                  refine pure_ (i := 15) (N := some 64) (v := .pointer (some ⟨B0, 15, none⟩)) (lN 29 16) rfl rfl (by kernel_rfl) (fun _ _ _ h => h) (Or.inl ⟨by kernel_rfl, fun w' => by kernel_rfl⟩) rfl ?_
                  simp only [Act.put, List.setIfInBounds_toArray, List.set_cons_zero, List.set_cons_succ]
                  refine take_ (i := 16) (N := some 65) (v := .bool false) (lN 29 17) rfl rfl (by kernel_rfl) (fun _ _ _ h => h) (Or.inl ⟨by kernel_rfl, fun w' hs => us_load 4 (us_bool ((blk_cell hs.1 15).trans (show a.cells[15]? = some (.bool false) by show some (Value.bool a.h2) = _; rw [Qh2.out]))) rfl rfl⟩) hHeld rfl ?_
                  simp only [Act.put, List.setIfInBounds_toArray, List.set_cons_zero, List.set_cons_succ]
                  refine pure_ (i := 17) (N := some 66) (v := .bool false) (lN 29 18) rfl rfl (by kernel_rfl) (fun _ _ _ h => h) (Or.inl ⟨by kernel_rfl, fun w' => by kernel_rfl⟩) rfl ?_
                  simp only [Act.put, List.setIfInBounds_toArray, List.set_cons_zero, List.set_cons_succ]
                  refine pure_ (i := 18) (N := some 67) (v := undef) (lN 29 19) rfl rfl (by kernel_rfl) (fun _ _ _ h => h) (Or.inr ⟨by kernel_rfl, rfl⟩) rfl ?_
                  simp only [Act.put, List.setIfInBounds_toArray, List.set_cons_zero, List.set_cons_succ]
                  refine pure_ (i := 19) (N := some 68) (v := undef) (lN 29 20) rfl rfl (by kernel_rfl) (fun _ _ _ h => h) (Or.inr ⟨by kernel_rfl, rfl⟩) rfl ?_
                  simp only [Act.put, List.setIfInBounds_toArray, List.set_cons_zero, List.set_cons_succ]
                  refine pure_ (i := 20) (N := some 69) (v := undef) (lN 29 21) rfl rfl (by kernel_rfl) (fun _ _ _ h => h) (Or.inr ⟨by kernel_rfl, rfl⟩) rfl ?_
                  simp only [Act.put, List.setIfInBounds_toArray, List.set_cons_zero, List.set_cons_succ]
                  refine pure_ (i := 21) (N := some 70) (v := undef) (lN 29 22) rfl rfl (by kernel_rfl) (fun _ _ _ h => h) (Or.inr ⟨by kernel_rfl, rfl⟩) rfl ?_
                  simp only [Act.put, List.setIfInBounds_toArray, List.set_cons_zero, List.set_cons_succ]
                  refine pure_ (i := 22) (N := some 71) (v := undef) (lN 29 23) rfl rfl (by kernel_rfl) (fun _ _ _ h => h) (Or.inr ⟨by kernel_rfl, rfl⟩) rfl ?_
                  simp only [Act.put, List.setIfInBounds_toArray, List.set_cons_zero, List.set_cons_succ]
                  refine pure_ (i := 23) (N := some 72) (v := undef) (lN 29 24) rfl rfl (by kernel_rfl) (fun _ _ _ h => h) (Or.inr ⟨by kernel_rfl, rfl⟩) rfl ?_
                  simp only [Act.put, List.setIfInBounds_toArray, List.set_cons_zero, List.set_cons_succ]
                  refine pure_ (i := 24) (N := some 73) (v := undef) (lN 29 25) rfl rfl (by kernel_rfl) (fun _ _ _ h => h) (Or.inr ⟨by kernel_rfl, rfl⟩) rfl ?_
                  simp only [Act.put, List.setIfInBounds_toArray, List.set_cons_zero, List.set_cons_succ]
                  refine pure_ (i := 25) (N := some 74) (v := .bool false) (lN 29 26) rfl rfl (by kernel_rfl) (fun _ _ _ h => h) (Or.inl ⟨by kernel_rfl, fun w' => by kernel_rfl⟩) rfl ?_
                  simp only [Act.put, List.setIfInBounds_toArray, List.set_cons_zero, List.set_cons_succ]
                  refine pure_ (i := 26) (N := some 75) (v := .bool false) (lN 29 27) rfl rfl (by kernel_rfl) (fun _ _ _ h => h) (Or.inl ⟨by kernel_rfl, fun w' => by kernel_rfl⟩) rfl ?_
                  simp only [Act.put, List.setIfInBounds_toArray, List.set_cons_zero, List.set_cons_succ]
                  refine pure_ (i := 27) (N := some 76) (v := .bool false) (lN 29 28) rfl rfl (by kernel_rfl) (fun _ _ _ h => h) (Or.inl ⟨by kernel_rfl, fun w' => by kernel_rfl⟩) rfl ?_
                  simp only [Act.put, List.setIfInBounds_toArray, List.set_cons_zero, List.set_cons_succ]
                  refine pure_ (i := 28) (N := some 48) (v := .bool false) (lN 29 29) rfl rfl (by kernel_rfl) (fun _ _ _ h => h) (Or.inl ⟨by kernel_rfl, fun w' => by kernel_rfl⟩) rfl ?_
                  simp only [Act.put, List.setIfInBounds_toArray, List.set_cons_zero, List.set_cons_succ]
                  refine done_ (by kernel_rfl) ?_
                  go_wp2
                  go_ret
                  exact ⟨by rw [HO.out, HL.out, show decideI sh a s o lf = 3 by unfold decideI; rw [if_neg (by rw [Q1.out]; decide), if_neg (by rw [Q2.out]; decide), if_neg (by rw [Q3.out]; simp), if_neg (by have := Q4.out; omega), if_neg (by rw [QS.out]; decide), if_neg (by rw [Qh3.out]; decide), if_neg (by rw [Qb10.out]; decide), if_neg (by rw [Qh2.out]; decide)]]; rfl, HBF.out⟩
                | true =>
                  have Qh2 := Aside0.mk qg
                  clear qg
                  by_cases qn : a.n2 ≥ subI o lf
                  · have QG := Aside0.mk (decide_eq_true qn)
                    have QN := Aside0.mk qn
                    clear qn
                    refine start_ (n := 29) (S := fun w' => w'.heap[B0]? = some (.cells a.cells 34 (0, 0)) ∧ w'.heap[B0 + 1]? = some (.cells s.cells 34 (0, 0))) (ds := []) (lN 29 0) (by kernel_rfl) rfl rfl ⟨blk_drew HA.out, blk_drew HS.out⟩ (fun hHeld => ?_)
                    have n0_ := Aside0.mk (blk_drew HA.out); have n1_ := Aside0.mk (blk_drew HS.out); have n2_ := Aside0.mk (below_drew1 HBF.out); clear HA HS HBF; have HA := n0_; have HS := n1_; have HBF := n2_; clear n0_ n1_ n2_
                    generalize World.drew _ = wd at HA HS HBF hHeld ⊢
                    refine pure_ (i := 0) (N := some 49) (v := .bool sh) (lN 29 1) rfl rfl (by kernel_rfl) (fun _ _ _ h => h) (Or.inl ⟨by kernel_rfl, fun w' => by kernel_rfl⟩) rfl ?_
                    simp only [Act.put, List.setIfInBounds_toArray, List.set_cons_zero, List.set_cons_succ]
                    refine take_ (i := 1) (N := some 50) (v := .agg s.cells) (lN 29 2) rfl rfl (by kernel_rfl) (fun _ _ _ h => h) (Or.inl ⟨by kernel_rfl, fun w' hs => us_load 34 (run_loadVar_row w' (B0 + 1) 34 34 s.cells (0, 0) _ hs.2 hu35 rfl (cc_info.trans HSS.out)) rfl rfl⟩) hHeld rfl ?_
                    simp only [Act.put, List.setIfInBounds_toArray, List.set_cons_zero, List.set_cons_succ]
                    refine one_ (i := 2) (N := some 51) (lN 29 3) rfl rfl (by kernel_rfl) (by decide) (fun K hK => ?_)
                    refine goes_ Tryd.func22 (by kernel_rfl) rfl #[.bool sh, .agg s.cells] (by kernel_rfl) rfl rfl (by first | rfl | (simp only [List.map_toArray, List.map_cons, List.map_nil]; rfl)) ?_
                    with_reducible refine (use_strict.own sh s _).mono ?_
                    rintro e wn2 ⟨rfl, hb⟩
                    refine ⟨.bool (strictB sh s), rfl, ?_⟩
                    have n0_ := Aside0.mk (HBF.out.trans (hb.mono HBF.out.size)); have n1_ := Aside0.mk (blk_below HA.out hb); have n2_ := Aside0.mk (blk_below HS.out hb); clear HBF HA HS hb; have HBF := n0_; have HA := n1_; have HS := n2_; clear n0_ n1_ n2_; clear hHeld
                    refine hK.out _ _ ⟨HA.out, HS.out⟩ (fun hHeld => ?_)
                    clear hK K
                    rw [QS.out]
                    simp only [Act.put, List.setIfInBounds_toArray, List.set_cons_zero, List.set_cons_succ]
                    refine pure_ (i := 3) (N := some 52) (v := .bool true) (lN 29 4) rfl rfl (by kernel_rfl) (fun _ _ _ h => h) (Or.inl ⟨by kernel_rfl, fun w' => by kernel_rfl⟩) rfl ?_
                    simp only [Act.put, List.setIfInBounds_toArray, List.set_cons_zero, List.set_cons_succ]
                    refine pure_ (i := 4) (N := some 53) (v := .bool true) (lN 29 5) rfl rfl (by kernel_rfl) (fun _ _ _ h => h) (Or.inl ⟨by kernel_rfl, fun w' => by kernel_rfl⟩) rfl ?_
                    simp only [Act.put, List.setIfInBounds_toArray, List.set_cons_zero, List.set_cons_succ]
                    refine pure_ (i := 5) (N := some 54) (v := .pointer (some ⟨B0, 17, none⟩)) (lN 29 6) rfl rfl (by kernel_rfl) (fun _ _ _ h => h) (Or.inl ⟨by kernel_rfl, fun w' => by kernel_rfl⟩) rfl ?_
                    simp only [Act.put, List.setIfInBounds_toArray, List.set_cons_zero, List.set_cons_succ]
                    refine pure_ (i := 6) (N := some 55) (v := .pointer (some ⟨B0, 17, none⟩)) (lN 29 7) rfl rfl (by kernel_rfl) (fun _ _ _ h => h) (Or.inl ⟨by kernel_rfl, fun w' => by kernel_rfl⟩) rfl ?_
                    simp only [Act.put, List.setIfInBounds_toArray, List.set_cons_zero, List.set_cons_succ]
                    refine take_ (i := 7) (N := some 56) (v := .bool false) (lN 29 8) rfl rfl (by kernel_rfl) (fun _ _ _ h => h) (Or.inl ⟨by kernel_rfl, fun w' hs => us_load 4 (us_bool ((blk_cell hs.1 17).trans (show a.cells[17]? = some (.bool false) by show some (Value.bool a.h3) = _; rw [Qh3.out]))) rfl rfl⟩) hHeld rfl ?_
                    simp only [Act.put, List.setIfInBounds_toArray, List.set_cons_zero, List.set_cons_succ]
                    refine pure_ (i := 8) (N := some 57) (v := .bool true) (lN 29 9) rfl rfl (by kernel_rfl) (fun _ _ _ h => h) (Or.inl ⟨by kernel_rfl, fun w' => by kernel_rfl⟩) rfl ?_
                    simp only [Act.put, List.setIfInBounds_toArray, List.set_cons_zero, List.set_cons_succ]
                    refine pure_ (i := 9) (N := some 58) (v := .bool true) (lN 29 10) rfl rfl (by kernel_rfl) (fun _ _ _ h => h) (Or.inl ⟨by kernel_rfl, fun w' => by kernel_rfl⟩) rfl ?_
                    simp only [Act.put, List.setIfInBounds_toArray, List.set_cons_zero, List.set_cons_succ]
                    refine pure_ (i := 10) (N := some 59) (v := .bool true) (lN 29 11) rfl rfl (by kernel_rfl) (fun _ _ _ h => h) (Or.inl ⟨by kernel_rfl, fun w' => by kernel_rfl⟩) rfl ?_
                    simp only [Act.put, List.setIfInBounds_toArray, List.set_cons_zero, List.set_cons_succ]
                    refine pure_ (i := 11) (N := some 60) (v := .pointer (some ⟨B0, 10, none⟩)) (lN 29 12) rfl rfl (by kernel_rfl) (fun _ _ _ h => h) (Or.inl ⟨by kernel_rfl, fun w' => by kernel_rfl⟩) rfl ?_
                    simp only [Act.put, List.setIfInBounds_toArray, List.set_cons_zero, List.set_cons_succ]
                    refine take_ (i := 12) (N := some 61) (v := .bool false) (lN 29 13) rfl rfl (by kernel_rfl) (fun _ _ _ h => h) (Or.inl ⟨by kernel_rfl, fun w' hs => us_load 4 (us_bool ((blk_cell hs.1 10).trans (show a.cells[10]? = some (.bool false) by show some (Value.bool a.b10) = _; rw [Qb10.out]))) rfl rfl⟩) hHeld rfl ?_
                    simp only [Act.put, List.setIfInBounds_toArray, List.set_cons_zero, List.set_cons_succ]
                    refine pure_ (i := 13) (N := some 62) (v := .bool false) (lN 29 14) rfl rfl (by kernel_rfl) (fun _ _ _ h => h) (Or.inl ⟨by kernel_rfl, fun w' => by kernel_rfl⟩) rfl ?_
                    simp only [Act.put, List.setIfInBounds_toArray, List.set_cons_zero, List.set_cons_succ]
                    refine pure_ (i := 14) (N := some 63) (v := .pointer (some ⟨B0, 15, none⟩)) (lN 29 15) rfl rfl (by kernel_rfl) (fun _ _ _ h => h) (Or.inl ⟨by kernel_rfl, fun w' => by kernel_rfl⟩) rfl ?_
                    simp only [Act.put, List.setIfInBounds_toArray, List.set_cons_zero, List.set_cons_succ]
                    refine pure_ (i := 15) (N := some 64) (v := .pointer (some ⟨B0, 15, none⟩)) (lN 29 16) rfl rfl (by kernel_rfl) (fun _ _ _ h => h) (Or.inl ⟨by kernel_rfl, fun w' => by kernel_rfl⟩) rfl ?_
                    simp only [Act.put, List.setIfInBounds_toArray, List.set_cons_zero, List.set_cons_succ]
                    refine take_ (i := 16) (N := some 65) (v := .bool true) (lN 29 17) rfl rfl (by kernel_rfl) (fun _ _ _ h => h) (Or.inl ⟨by kernel_rfl, fun w' hs => us_load 4 (us_bool ((blk_cell hs.1 15).trans (show a.cells[15]? = some (.bool true) by show some (Value.bool a.h2) = _; rw [Qh2.out]))) rfl rfl⟩) hHeld rfl ?_
                    simp only [Act.put, List.setIfInBounds_toArray, List.set_cons_zero, List.set_cons_succ]
                    refine pure_ (i := 17) (N := some 66) (v := .bool true) (lN 29 18) rfl rfl (by kernel_rfl) (fun _ _ _ h => h) (Or.inl ⟨by kernel_rfl, fun w' => by kernel_rfl⟩) rfl ?_
                    simp only [Act.put, List.setIfInBounds_toArray, List.set_cons_zero, List.set_cons_succ]
                    refine pure_ (i := 18) (N := some 67) (v := .pointer (some ⟨B0, 15, none⟩)) (lN 29 19) rfl rfl (by kernel_rfl) (fun _ _ _ h => h) (Or.inl ⟨by kernel_rfl, fun w' => by kernel_rfl⟩) rfl ?_
                    simp only [Act.put, List.setIfInBounds_toArray, List.set_cons_zero, List.set_cons_succ]
                    refine pure_ (i := 19) (N := some 68) (v := .pointer (some ⟨B0, 16, none⟩)) (lN 29 20) rfl rfl (by kernel_rfl) (fun _ _ _ h => h) (Or.inl ⟨by kernel_rfl, fun w' => by kernel_rfl⟩) rfl ?_
                    simp only [Act.put, List.setIfInBounds_toArray, List.set_cons_zero, List.set_cons_succ]
                    refine take_ (i := 20) (N := some 69) (v := .int .i64 a.n2) (lN 29 21) rfl rfl (by kernel_rfl) (fun _ _ _ h => h) (Or.inl ⟨by kernel_rfl, fun w' hs => us_load 3 (us_int ((blk_cell hs.1 16).trans (show a.cells[16]? = some (.int .i64 a.n2) from rfl))) rfl rfl⟩) hHeld rfl ?_
                    simp only [Act.put, List.setIfInBounds_toArray, List.set_cons_zero, List.set_cons_succ]
                    refine pure_ (i := 21) (N := some 70) (v := .int .i64 o) (lN 29 22) rfl rfl (by kernel_rfl) (fun _ _ _ h => h) (Or.inl ⟨by kernel_rfl, fun w' => by kernel_rfl⟩) rfl ?_
                    simp only [Act.put, List.setIfInBounds_toArray, List.set_cons_zero, List.set_cons_succ]
                    refine pure_ (i := 22) (N := some 71) (v := .int .i64 lf) (lN 29 23) rfl rfl (by kernel_rfl) (fun _ _ _ h => h) (Or.inl ⟨by kernel_rfl, fun w' => by kernel_rfl⟩) rfl ?_
                    simp only [Act.put, List.setIfInBounds_toArray, List.set_cons_zero, List.set_cons_succ]
                    refine one_ (i := 23) (N := some 72) (lN 29 24) rfl rfl (by kernel_rfl) (by decide) (fun K hK => ?_)
                    refine goes_ Tryd.func13 (by kernel_rfl) rfl #[.int .i64 o, .int .i64 lf] (by kernel_rfl) rfl rfl (by first | rfl | (simp only [List.map_toArray, List.map_cons, List.map_nil]; rfl)) ?_
                    with_reducible refine (bits_Sub.calls o lf _ _ (Sub_is o lf)).mono ?_
                    rintro e wn23 ⟨rfl, hb⟩
                    refine ⟨.int .i64 (subI o lf), rfl, ?_⟩
                    have n0_ := Aside0.mk (HBF.out.trans (hb.mono HBF.out.size)); have n1_ := Aside0.mk (blk_below HA.out hb); have n2_ := Aside0.mk (blk_below HS.out hb); clear HBF HA HS hb; have HBF := n0_; have HA := n1_; have HS := n2_; clear n0_ n1_ n2_; clear hHeld
                    refine hK.out _ _ ⟨HA.out, HS.out⟩ (fun hHeld => ?_)
                    clear hK K
                    simp only [Act.put, List.setIfInBounds_toArray, List.set_cons_zero, List.set_cons_succ]
                    refine pure_ (i := 24) (N := some 73) (v := .bool true) (lN 29 25) rfl rfl (by kernel_rfl) (fun _ _ _ h => h) (Or.inl ⟨by kernel_rfl, fun w' => us_geq QG.out rfl rfl rfl⟩) rfl ?_
                    simp only [Act.put, List.setIfInBounds_toArray, List.set_cons_zero, List.set_cons_succ]
                    refine pure_ (i := 25) (N := some 74) (v := .bool true) (lN 29 26) rfl rfl (by kernel_rfl) (fun _ _ _ h => h) (Or.inl ⟨by kernel_rfl, fun w' => by kernel_rfl⟩) rfl ?_
                    simp only [Act.put, List.setIfInBounds_toArray, List.set_cons_zero, List.set_cons_succ]
                    refine pure_ (i := 26) (N := some 75) (v := .bool true) (lN 29 27) rfl rfl (by kernel_rfl) (fun _ _ _ h => h) (Or.inl ⟨by kernel_rfl, fun w' => by kernel_rfl⟩) rfl ?_
                    simp only [Act.put, List.setIfInBounds_toArray, List.set_cons_zero, List.set_cons_succ]
                    refine pure_ (i := 27) (N := some 76) (v := .bool true) (lN 29 28) rfl rfl (by kernel_rfl) (fun _ _ _ h => h) (Or.inl ⟨by kernel_rfl, fun w' => by kernel_rfl⟩) rfl ?_
                    simp only [Act.put, List.setIfInBounds_toArray, List.set_cons_zero, List.set_cons_succ]
                    refine pure_ (i := 28) (N := some 48) (v := .bool true) (lN 29 29) rfl rfl (by kernel_rfl) (fun _ _ _ h => h) (Or.inl ⟨by kernel_rfl, fun w' => by kernel_rfl⟩) rfl ?_
                    simp only [Act.put, List.setIfInBounds_toArray, List.set_cons_zero, List.set_cons_succ]
                    refine done_ (by kernel_rfl) ?_
                    go_wp2
                    go_ret
                    exact ⟨by rw [HO.out, HL.out, show decideI sh a s o lf = 2 by unfold decideI; rw [if_neg (by rw [Q1.out]; decide), if_neg (by rw [Q2.out]; decide), if_neg (by rw [Q3.out]; simp), if_neg (by have := Q4.out; omega), if_neg (by rw [QS.out]; decide), if_neg (by rw [Qh3.out]; decide), if_neg (by rw [Qb10.out]; decide), if_pos Qh2.out, if_pos (by have := QN.out; omega)]]; rfl, HBF.out⟩
                  · have QG := Aside0.mk (decide_eq_false qn)
                    have QN := Aside0.mk qn
                    clear qn
                    refine start_ (n := 29) (S := fun w' => w'.heap[B0]? = some (.cells a.cells 34 (0, 0)) ∧ w'.heap[B0 + 1]? = some (.cells s.cells 34 (0, 0))) (ds := []) (lN 29 0) (by kernel_rfl) rfl rfl ⟨blk_drew HA.out, blk_drew HS.out⟩ (fun hHeld => ?_)
                    have n0_ := Aside0.mk (blk_drew HA.out); have n1_ := Aside0.mk (blk_drew HS.out); have n2_ := Aside0.mk (below_drew1 HBF.out); clear HA HS HBF; have HA := n0_; have HS := n1_; have HBF := n2_; clear n0_ n1_ n2_
                    generalize World.drew _ = wd at HA HS HBF hHeld ⊢
                    refine pure_ (i := 0) (N := some 49) (v := .bool sh) (lN 29 1) rfl rfl (by kernel_rfl) (fun _ _ _ h => h) (Or.inl ⟨by kernel_rfl, fun w' => by kernel_rfl⟩) rfl ?_
                    simp only [Act.put, List.setIfInBounds_toArray, List.set_cons_zero, List.set_cons_succ]
                    refine take_ (i := 1) (N := some 50) (v := .agg s.cells) (lN 29 2) rfl rfl (by kernel_rfl) (fun _ _ _ h => h) (Or.inl ⟨by kernel_rfl, fun w' hs => us_load 34 (run_loadVar_row w' (B0 + 1) 34 34 s.cells (0, 0) _ hs.2 hu35 rfl (cc_info.trans HSS.out)) rfl rfl⟩) hHeld rfl ?_
                    simp only [Act.put, List.setIfInBounds_toArray, List.set_cons_zero, List.set_cons_succ]
                    refine one_ (i := 2) (N := some 51) (lN 29 3) rfl rfl (by kernel_rfl) (by decide) (fun K hK => ?_)
                    refine goes_ Tryd.func22 (by kernel_rfl) rfl #[.bool sh, .agg s.cells] (by kernel_rfl) rfl rfl (by first | rfl | (simp only [List.map_toArray, List.map_cons, List.map_nil]; rfl)) ?_
                    with_reducible refine (use_strict.own sh s _).mono ?_
                    rintro e wn2 ⟨rfl, hb⟩
                    refine ⟨.bool (strictB sh s), rfl, ?_⟩
                    have n0_ := Aside0.mk (HBF.out.trans (hb.mono HBF.out.size)); have n1_ := Aside0.mk (blk_below HA.out hb); have n2_ := Aside0.mk (blk_below HS.out hb); clear HBF HA HS hb; have HBF := n0_; have HA := n1_; have HS := n2_; clear n0_ n1_ n2_; clear hHeld
                    refine hK.out _ _ ⟨HA.out, HS.out⟩ (fun hHeld => ?_)
                    clear hK K
                    rw [QS.out]
                    simp only [Act.put, List.setIfInBounds_toArray, List.set_cons_zero, List.set_cons_succ]
                    refine pure_ (i := 3) (N := some 52) (v := .bool true) (lN 29 4) rfl rfl (by kernel_rfl) (fun _ _ _ h => h) (Or.inl ⟨by kernel_rfl, fun w' => by kernel_rfl⟩) rfl ?_
                    simp only [Act.put, List.setIfInBounds_toArray, List.set_cons_zero, List.set_cons_succ]
                    refine pure_ (i := 4) (N := some 53) (v := .bool true) (lN 29 5) rfl rfl (by kernel_rfl) (fun _ _ _ h => h) (Or.inl ⟨by kernel_rfl, fun w' => by kernel_rfl⟩) rfl ?_
                    simp only [Act.put, List.setIfInBounds_toArray, List.set_cons_zero, List.set_cons_succ]
                    refine pure_ (i := 5) (N := some 54) (v := .pointer (some ⟨B0, 17, none⟩)) (lN 29 6) rfl rfl (by kernel_rfl) (fun _ _ _ h => h) (Or.inl ⟨by kernel_rfl, fun w' => by kernel_rfl⟩) rfl ?_
                    simp only [Act.put, List.setIfInBounds_toArray, List.set_cons_zero, List.set_cons_succ]
                    refine pure_ (i := 6) (N := some 55) (v := .pointer (some ⟨B0, 17, none⟩)) (lN 29 7) rfl rfl (by kernel_rfl) (fun _ _ _ h => h) (Or.inl ⟨by kernel_rfl, fun w' => by kernel_rfl⟩) rfl ?_
                    simp only [Act.put, List.setIfInBounds_toArray, List.set_cons_zero, List.set_cons_succ]
                    refine take_ (i := 7) (N := some 56) (v := .bool false) (lN 29 8) rfl rfl (by kernel_rfl) (fun _ _ _ h => h) (Or.inl ⟨by kernel_rfl, fun w' hs => us_load 4 (us_bool ((blk_cell hs.1 17).trans (show a.cells[17]? = some (.bool false) by show some (Value.bool a.h3) = _; rw [Qh3.out]))) rfl rfl⟩) hHeld rfl ?_
                    simp only [Act.put, List.setIfInBounds_toArray, List.set_cons_zero, List.set_cons_succ]
                    refine pure_ (i := 8) (N := some 57) (v := .bool true) (lN 29 9) rfl rfl (by kernel_rfl) (fun _ _ _ h => h) (Or.inl ⟨by kernel_rfl, fun w' => by kernel_rfl⟩) rfl ?_
                    simp only [Act.put, List.setIfInBounds_toArray, List.set_cons_zero, List.set_cons_succ]
                    refine pure_ (i := 9) (N := some 58) (v := .bool true) (lN 29 10) rfl rfl (by kernel_rfl) (fun _ _ _ h => h) (Or.inl ⟨by kernel_rfl, fun w' => by kernel_rfl⟩) rfl ?_
                    simp only [Act.put, List.setIfInBounds_toArray, List.set_cons_zero, List.set_cons_succ]
                    refine pure_ (i := 10) (N := some 59) (v := .bool true) (lN 29 11) rfl rfl (by kernel_rfl) (fun _ _ _ h => h) (Or.inl ⟨by kernel_rfl, fun w' => by kernel_rfl⟩) rfl ?_
                    simp only [Act.put, List.setIfInBounds_toArray, List.set_cons_zero, List.set_cons_succ]
                    refine pure_ (i := 11) (N := some 60) (v := .pointer (some ⟨B0, 10, none⟩)) (lN 29 12) rfl rfl (by kernel_rfl) (fun _ _ _ h => h) (Or.inl ⟨by kernel_rfl, fun w' => by kernel_rfl⟩) rfl ?_
                    simp only [Act.put, List.setIfInBounds_toArray, List.set_cons_zero, List.set_cons_succ]
                    refine take_ (i := 12) (N := some 61) (v := .bool false) (lN 29 13) rfl rfl (by kernel_rfl) (fun _ _ _ h => h) (Or.inl ⟨by kernel_rfl, fun w' hs => us_load 4 (us_bool ((blk_cell hs.1 10).trans (show a.cells[10]? = some (.bool false) by show some (Value.bool a.b10) = _; rw [Qb10.out]))) rfl rfl⟩) hHeld rfl ?_
                    simp only [Act.put, List.setIfInBounds_toArray, List.set_cons_zero, List.set_cons_succ]
                    refine pure_ (i := 13) (N := some 62) (v := .bool false) (lN 29 14) rfl rfl (by kernel_rfl) (fun _ _ _ h => h) (Or.inl ⟨by kernel_rfl, fun w' => by kernel_rfl⟩) rfl ?_
                    simp only [Act.put, List.setIfInBounds_toArray, List.set_cons_zero, List.set_cons_succ]
                    refine pure_ (i := 14) (N := some 63) (v := .pointer (some ⟨B0, 15, none⟩)) (lN 29 15) rfl rfl (by kernel_rfl) (fun _ _ _ h => h) (Or.inl ⟨by kernel_rfl, fun w' => by kernel_rfl⟩) rfl ?_
                    simp only [Act.put, List.setIfInBounds_toArray, List.set_cons_zero, List.set_cons_succ]
                    refine pure_ (i := 15) (N := some 64) (v := .pointer (some ⟨B0, 15, none⟩)) (lN 29 16) rfl rfl (by kernel_rfl) (fun _ _ _ h => h) (Or.inl ⟨by kernel_rfl, fun w' => by kernel_rfl⟩) rfl ?_
                    simp only [Act.put, List.setIfInBounds_toArray, List.set_cons_zero, List.set_cons_succ]
                    refine take_ (i := 16) (N := some 65) (v := .bool true) (lN 29 17) rfl rfl (by kernel_rfl) (fun _ _ _ h => h) (Or.inl ⟨by kernel_rfl, fun w' hs => us_load 4 (us_bool ((blk_cell hs.1 15).trans (show a.cells[15]? = some (.bool true) by show some (Value.bool a.h2) = _; rw [Qh2.out]))) rfl rfl⟩) hHeld rfl ?_
                    simp only [Act.put, List.setIfInBounds_toArray, List.set_cons_zero, List.set_cons_succ]
                    refine pure_ (i := 17) (N := some 66) (v := .bool true) (lN 29 18) rfl rfl (by kernel_rfl) (fun _ _ _ h => h) (Or.inl ⟨by kernel_rfl, fun w' => by kernel_rfl⟩) rfl ?_
                    simp only [Act.put, List.setIfInBounds_toArray, List.set_cons_zero, List.set_cons_succ]
                    refine pure_ (i := 18) (N := some 67) (v := .pointer (some ⟨B0, 15, none⟩)) (lN 29 19) rfl rfl (by kernel_rfl) (fun _ _ _ h => h) (Or.inl ⟨by kernel_rfl, fun w' => by kernel_rfl⟩) rfl ?_
                    simp only [Act.put, List.setIfInBounds_toArray, List.set_cons_zero, List.set_cons_succ]
                    refine pure_ (i := 19) (N := some 68) (v := .pointer (some ⟨B0, 16, none⟩)) (lN 29 20) rfl rfl (by kernel_rfl) (fun _ _ _ h => h) (Or.inl ⟨by kernel_rfl, fun w' => by kernel_rfl⟩) rfl ?_
                    simp only [Act.put, List.setIfInBounds_toArray, List.set_cons_zero, List.set_cons_succ]
                    refine take_ (i := 20) (N := some 69) (v := .int .i64 a.n2) (lN 29 21) rfl rfl (by kernel_rfl) (fun _ _ _ h => h) (Or.inl ⟨by kernel_rfl, fun w' hs => us_load 3 (us_int ((blk_cell hs.1 16).trans (show a.cells[16]? = some (.int .i64 a.n2) from rfl))) rfl rfl⟩) hHeld rfl ?_
                    simp only [Act.put, List.setIfInBounds_toArray, List.set_cons_zero, List.set_cons_succ]
                    refine pure_ (i := 21) (N := some 70) (v := .int .i64 o) (lN 29 22) rfl rfl (by kernel_rfl) (fun _ _ _ h => h) (Or.inl ⟨by kernel_rfl, fun w' => by kernel_rfl⟩) rfl ?_
                    simp only [Act.put, List.setIfInBounds_toArray, List.set_cons_zero, List.set_cons_succ]
                    refine pure_ (i := 22) (N := some 71) (v := .int .i64 lf) (lN 29 23) rfl rfl (by kernel_rfl) (fun _ _ _ h => h) (Or.inl ⟨by kernel_rfl, fun w' => by kernel_rfl⟩) rfl ?_
                    simp only [Act.put, List.setIfInBounds_toArray, List.set_cons_zero, List.set_cons_succ]
                    refine one_ (i := 23) (N := some 72) (lN 29 24) rfl rfl (by kernel_rfl) (by decide) (fun K hK => ?_)
                    refine goes_ Tryd.func13 (by kernel_rfl) rfl #[.int .i64 o, .int .i64 lf] (by kernel_rfl) rfl rfl (by first | rfl | (simp only [List.map_toArray, List.map_cons, List.map_nil]; rfl)) ?_
                    with_reducible refine (bits_Sub.calls o lf _ _ (Sub_is o lf)).mono ?_
                    rintro e wn23 ⟨rfl, hb⟩
                    refine ⟨.int .i64 (subI o lf), rfl, ?_⟩
                    have n0_ := Aside0.mk (HBF.out.trans (hb.mono HBF.out.size)); have n1_ := Aside0.mk (blk_below HA.out hb); have n2_ := Aside0.mk (blk_below HS.out hb); clear HBF HA HS hb; have HBF := n0_; have HA := n1_; have HS := n2_; clear n0_ n1_ n2_; clear hHeld
                    refine hK.out _ _ ⟨HA.out, HS.out⟩ (fun hHeld => ?_)
                    clear hK K
                    simp only [Act.put, List.setIfInBounds_toArray, List.set_cons_zero, List.set_cons_succ]
                    refine pure_ (i := 24) (N := some 73) (v := .bool false) (lN 29 25) rfl rfl (by kernel_rfl) (fun _ _ _ h => h) (Or.inl ⟨by kernel_rfl, fun w' => us_geq QG.out rfl rfl rfl⟩) rfl ?_
                    simp only [Act.put, List.setIfInBounds_toArray, List.set_cons_zero, List.set_cons_succ]
                    refine pure_ (i := 25) (N := some 74) (v := .bool false) (lN 29 26) rfl rfl (by kernel_rfl) (fun _ _ _ h => h) (Or.inl ⟨by kernel_rfl, fun w' => by kernel_rfl⟩) rfl ?_
                    simp only [Act.put, List.setIfInBounds_toArray, List.set_cons_zero, List.set_cons_succ]
                    refine pure_ (i := 26) (N := some 75) (v := .bool false) (lN 29 27) rfl rfl (by kernel_rfl) (fun _ _ _ h => h) (Or.inl ⟨by kernel_rfl, fun w' => by kernel_rfl⟩) rfl ?_
                    simp only [Act.put, List.setIfInBounds_toArray, List.set_cons_zero, List.set_cons_succ]
                    refine pure_ (i := 27) (N := some 76) (v := .bool false) (lN 29 28) rfl rfl (by kernel_rfl) (fun _ _ _ h => h) (Or.inl ⟨by kernel_rfl, fun w' => by kernel_rfl⟩) rfl ?_
                    simp only [Act.put, List.setIfInBounds_toArray, List.set_cons_zero, List.set_cons_succ]
                    refine pure_ (i := 28) (N := some 48) (v := .bool false) (lN 29 29) rfl rfl (by kernel_rfl) (fun _ _ _ h => h) (Or.inl ⟨by kernel_rfl, fun w' => by kernel_rfl⟩) rfl ?_
                    simp only [Act.put, List.setIfInBounds_toArray, List.set_cons_zero, List.set_cons_succ]
                    refine done_ (by kernel_rfl) ?_
                    go_wp2
                    go_ret
                    exact ⟨by rw [HO.out, HL.out, show decideI sh a s o lf = 3 by unfold decideI; rw [if_neg (by rw [Q1.out]; decide), if_neg (by rw [Q2.out]; decide), if_neg (by rw [Q3.out]; simp), if_neg (by have := Q4.out; omega), if_neg (by rw [QS.out]; decide), if_neg (by rw [Qh3.out]; decide), if_neg (by rw [Qb10.out]; decide), if_pos Qh2.out, if_neg (by have := QN.out; omega)]]; rfl, HBF.out⟩
      | true =>
        have ca11 := (blk_cell HA.out 11).trans (show a.cells[11]? = some (.bool true) by show some (Value.bool a.h0) = _; rw [q3])
        have Q3 := Aside0.mk q3
        clear q3
        have ca12 := (blk_cell HA.out 12).trans (show a.cells[12]? = some (.int .i64 a.n0) from rfl)
        by_cases qz : a.n0 < o
        · have q3 : decide (a.n0 < o) = true := decide_eq_true qz
          have QZ := Aside0.mk qz
          clear qz
          go_wp2
          go_ret
          exact ⟨by rw [HO.out, HL.out, show decideI sh a s o lf = 3 by unfold decideI; rw [if_neg (by rw [Q1.out]; decide), if_neg (by rw [Q2.out]; decide), if_pos ⟨Q3.out, by have := QZ.out; omega⟩]]; rfl, HBF.out⟩
        · have q3 : decide (a.n0 < o) = false := decide_eq_false qz
          have QZ := Aside0.mk qz
          clear qz
          have ca18 := (blk_cell HA.out 18).trans (show a.cells[18]? = some (.int .i64 a.n3) from rfl)
          by_cases q4 : addI o a.n3 < lf
          · have q5 : decide (addI o a.n3 < lf) = true := decide_eq_true q4
            have Q4 := Aside0.mk q4
            clear q4
            go_wp2_with (go_at_call 21; (with_reducible refine (bits_Add.calls o a.n3 _ _ (Add_is o a.n3)).mono ?_); rintro e w5 ⟨rfl, hb⟩; have n0_ := Aside0.mk (HBF.out.trans (hb.mono HBF.out.size)); have n1_ := Aside0.mk (blk_below HA.out hb); have n2_ := Aside0.mk (blk_below HS.out hb); clear HBF HA HS hb; have HBF := n0_; have HA := n1_; have HS := n2_; clear n0_ n1_ n2_)
            go_ret
            exact ⟨by rw [HO.out, HL.out, show decideI sh a s o lf = 1 by unfold decideI; rw [if_neg (by rw [Q1.out]; decide), if_neg (by rw [Q2.out]; decide), if_neg (fun h => by have := QZ.out; have := h.2; omega), if_pos (by have := Q4.out; omega)]]; rfl, HBF.out⟩
          · have q5 : decide (addI o a.n3 < lf) = false := decide_eq_false q4
            have Q4 := Aside0.mk q4
            clear q4
            go_upto_region 7 with (go_at_call 21; (with_reducible refine (bits_Add.calls o a.n3 _ _ (Add_is o a.n3)).mono ?_); rintro e w5 ⟨rfl, hb⟩; have n0_ := Aside0.mk (HBF.out.trans (hb.mono HBF.out.size)); have n1_ := Aside0.mk (blk_below HA.out hb); have n2_ := Aside0.mk (blk_below HS.out hb); clear HBF HA HS hb; have HBF := n0_; have HA := n1_; have HS := n2_; clear n0_ n1_ n2_)
            clear ca1 cs1 ca18 q5
            try clear ca11
            try clear ca12
            try clear q3
            cases qs : strictB sh s with
            | true =>
              have QS := Aside0.mk qs
              clear qs
              refine start_ (n := 29) (S := fun w' => w'.heap[B0]? = some (.cells a.cells 34 (0, 0)) ∧ w'.heap[B0 + 1]? = some (.cells s.cells 34 (0, 0))) (ds := []) (lN 29 0) (by kernel_rfl) rfl rfl ⟨blk_drew HA.out, blk_drew HS.out⟩ (fun hHeld => ?_)
              have n0_ := Aside0.mk (blk_drew HA.out); have n1_ := Aside0.mk (blk_drew HS.out); have n2_ := Aside0.mk (below_drew1 HBF.out); clear HA HS HBF; have HA := n0_; have HS := n1_; have HBF := n2_; clear n0_ n1_ n2_
              generalize World.drew _ = wd at HA HS HBF hHeld ⊢
              refine pure_ (i := 0) (N := some 49) (v := .bool sh) (lN 29 1) rfl rfl (by kernel_rfl) (fun _ _ _ h => h) (Or.inl ⟨by kernel_rfl, fun w' => by kernel_rfl⟩) rfl ?_
              simp only [Act.put, List.setIfInBounds_toArray, List.set_cons_zero, List.set_cons_succ]
              refine take_ (i := 1) (N := some 50) (v := .agg s.cells) (lN 29 2) rfl rfl (by kernel_rfl) (fun _ _ _ h => h) (Or.inl ⟨by kernel_rfl, fun w' hs => us_load 34 (run_loadVar_row w' (B0 + 1) 34 34 s.cells (0, 0) _ hs.2 hu35 rfl (cc_info.trans HSS.out)) rfl rfl⟩) hHeld rfl ?_
              simp only [Act.put, List.setIfInBounds_toArray, List.set_cons_zero, List.set_cons_succ]
              refine one_ (i := 2) (N := some 51) (lN 29 3) rfl rfl (by kernel_rfl) (by decide) (fun K hK => ?_)
              refine goes_ Tryd.func22 (by kernel_rfl) rfl #[.bool sh, .agg s.cells] (by kernel_rfl) rfl rfl (by first | rfl | (simp only [List.map_toArray, List.map_cons, List.map_nil]; rfl)) ?_
              with_reducible refine (use_strict.own sh s _).mono ?_
              rintro e wn2 ⟨rfl, hb⟩
              refine ⟨.bool (strictB sh s), rfl, ?_⟩
              have n0_ := Aside0.mk (HBF.out.trans (hb.mono HBF.out.size)); have n1_ := Aside0.mk (blk_below HA.out hb); have n2_ := Aside0.mk (blk_below HS.out hb); clear HBF HA HS hb; have HBF := n0_; have HA := n1_; have HS := n2_; clear n0_ n1_ n2_; clear hHeld
              refine hK.out _ _ ⟨HA.out, HS.out⟩ (fun hHeld => ?_)
              clear hK K
              rw [QS.out]
              simp only [Act.put, List.setIfInBounds_toArray, List.set_cons_zero, List.set_cons_succ]
              refine pure_ (i := 3) (N := some 52) (v := .bool false) (lN 29 4) rfl rfl (by kernel_rfl) (fun _ _ _ h => h) (Or.inl ⟨by kernel_rfl, fun w' => by kernel_rfl⟩) rfl ?_
              simp only [Act.put, List.setIfInBounds_toArray, List.set_cons_zero, List.set_cons_succ]
              refine pure_ (i := 4) (N := some 53) (v := .bool false) (lN 29 5) rfl rfl (by kernel_rfl) (fun _ _ _ h => h) (Or.inl ⟨by kernel_rfl, fun w' => by kernel_rfl⟩) rfl ?_
              simp only [Act.put, List.setIfInBounds_toArray, List.set_cons_zero, List.set_cons_succ]
              refine pure_ (i := 5) (N := some 54) (v := undef) (lN 29 6) rfl rfl (by kernel_rfl) (fun _ _ _ h => h) (Or.inr ⟨by kernel_rfl, rfl⟩) rfl ?_
              simp only [Act.put, List.setIfInBounds_toArray, List.set_cons_zero, List.set_cons_succ]
              refine pure_ (i := 6) (N := some 55) (v := undef) (lN 29 7) rfl rfl (by kernel_rfl) (fun _ _ _ h => h) (Or.inr ⟨by kernel_rfl, rfl⟩) rfl ?_
              simp only [Act.put, List.setIfInBounds_toArray, List.set_cons_zero, List.set_cons_succ]
              refine pure_ (i := 7) (N := some 56) (v := undef) (lN 29 8) rfl rfl (by kernel_rfl) (fun _ _ _ h => h) (Or.inr ⟨by kernel_rfl, rfl⟩) rfl ?_
              simp only [Act.put, List.setIfInBounds_toArray, List.set_cons_zero, List.set_cons_succ]
              refine pure_ (i := 8) (N := some 57) (v := undef) (lN 29 9) rfl rfl (by kernel_rfl) (fun _ _ _ h => h) (Or.inr ⟨by kernel_rfl, rfl⟩) rfl ?_
              simp only [Act.put, List.setIfInBounds_toArray, List.set_cons_zero, List.set_cons_succ]
              refine pure_ (i := 9) (N := some 58) (v := .bool false) (lN 29 10) rfl rfl (by kernel_rfl) (fun _ _ _ h => h) (Or.inl ⟨by kernel_rfl, fun w' => by kernel_rfl⟩) rfl ?_
              simp only [Act.put, List.setIfInBounds_toArray, List.set_cons_zero, List.set_cons_succ]
              refine pure_ (i := 10) (N := some 59) (v := .bool false) (lN 29 11) rfl rfl (by kernel_rfl) (fun _ _ _ h => h) (Or.inl ⟨by kernel_rfl, fun w' => by kernel_rfl⟩) rfl ?_
              simp only [Act.put, List.setIfInBounds_toArray, List.set_cons_zero, List.set_cons_succ]
              refine pure_ (i := 11) (N := some 60) (v := undef) (lN 29 12) rfl rfl (by kernel_rfl) (fun _ _ _ h => h) (Or.inr ⟨by kernel_rfl, rfl⟩) rfl ?_
              simp only [Act.put, List.setIfInBounds_toArray, List.set_cons_zero, List.set_cons_succ]
              refine pure_ (i := 12) (N := some 61) (v := undef) (lN 29 13) rfl rfl (by kernel_rfl) (fun _ _ _ h => h) (Or.inr ⟨by kernel_rfl, rfl⟩) rfl ?_
              simp only [Act.put, List.setIfInBounds_toArray, List.set_cons_zero, List.set_cons_succ]
              refine pure_ (i := 13) (N := some 62) (v := undef) (lN 29 14) rfl rfl (by kernel_rfl) (fun _ _ _ h => h) (Or.inr ⟨by kernel_rfl, rfl⟩) rfl ?_
              simp only [Act.put, List.setIfInBounds_toArray, List.set_cons_zero, List.set_cons_succ]
              refine pure_ (i := 14) (N := some 63) (v := undef) (lN 29 15) rfl rfl (by kernel_rfl) (fun _ _ _ h => h) (Or.inr ⟨by kernel_rfl, rfl⟩) rfl ?_
              simp only [Act.put, List.setIfInBounds_toArray, List.set_cons_zero, List.set_cons_succ]
              refine pure_ (i := 15) (N := some 64) (v := undef) (lN 29 16) rfl rfl (by kernel_rfl) (fun _ _ _ h => h) (Or.inr ⟨by kernel_rfl, rfl⟩) rfl ?_
              simp only [Act.put, List.setIfInBounds_toArray, List.set_cons_zero, List.set_cons_succ]
              refine pure_ (i := 16) (N := some 65) (v := undef) (lN 29 17) rfl rfl (by kernel_rfl) (fun _ _ _ h => h) (Or.inr ⟨by kernel_rfl, rfl⟩) rfl ?_
              simp only [Act.put, List.setIfInBounds_toArray, List.set_cons_zero, List.set_cons_succ]
              refine pure_ (i := 17) (N := some 66) (v := undef) (lN 29 18) rfl rfl (by kernel_rfl) (fun _ _ _ h => h) (Or.inr ⟨by kernel_rfl, rfl⟩) rfl ?_
              simp only [Act.put, List.setIfInBounds_toArray, List.set_cons_zero, List.set_cons_succ]
              refine pure_ (i := 18) (N := some 67) (v := undef) (lN 29 19) rfl rfl (by kernel_rfl) (fun _ _ _ h => h) (Or.inr ⟨by kernel_rfl, rfl⟩) rfl ?_
              simp only [Act.put, List.setIfInBounds_toArray, List.set_cons_zero, List.set_cons_succ]
              refine pure_ (i := 19) (N := some 68) (v := undef) (lN 29 20) rfl rfl (by kernel_rfl) (fun _ _ _ h => h) (Or.inr ⟨by kernel_rfl, rfl⟩) rfl ?_
              simp only [Act.put, List.setIfInBounds_toArray, List.set_cons_zero, List.set_cons_succ]
              refine pure_ (i := 20) (N := some 69) (v := undef) (lN 29 21) rfl rfl (by kernel_rfl) (fun _ _ _ h => h) (Or.inr ⟨by kernel_rfl, rfl⟩) rfl ?_
              simp only [Act.put, List.setIfInBounds_toArray, List.set_cons_zero, List.set_cons_succ]
              refine pure_ (i := 21) (N := some 70) (v := undef) (lN 29 22) rfl rfl (by kernel_rfl) (fun _ _ _ h => h) (Or.inr ⟨by kernel_rfl, rfl⟩) rfl ?_
              simp only [Act.put, List.setIfInBounds_toArray, List.set_cons_zero, List.set_cons_succ]
              refine pure_ (i := 22) (N := some 71) (v := undef) (lN 29 23) rfl rfl (by kernel_rfl) (fun _ _ _ h => h) (Or.inr ⟨by kernel_rfl, rfl⟩) rfl ?_
              simp only [Act.put, List.setIfInBounds_toArray, List.set_cons_zero, List.set_cons_succ]
              refine pure_ (i := 23) (N := some 72) (v := undef) (lN 29 24) rfl rfl (by kernel_rfl) (fun _ _ _ h => h) (Or.inr ⟨by kernel_rfl, rfl⟩) rfl ?_
              simp only [Act.put, List.setIfInBounds_toArray, List.set_cons_zero, List.set_cons_succ]
              refine pure_ (i := 24) (N := some 73) (v := undef) (lN 29 25) rfl rfl (by kernel_rfl) (fun _ _ _ h => h) (Or.inr ⟨by kernel_rfl, rfl⟩) rfl ?_
              simp only [Act.put, List.setIfInBounds_toArray, List.set_cons_zero, List.set_cons_succ]
              refine pure_ (i := 25) (N := some 74) (v := undef) (lN 29 26) rfl rfl (by kernel_rfl) (fun _ _ _ h => h) (Or.inr ⟨by kernel_rfl, rfl⟩) rfl ?_
              simp only [Act.put, List.setIfInBounds_toArray, List.set_cons_zero, List.set_cons_succ]
              refine pure_ (i := 26) (N := some 75) (v := undef) (lN 29 27) rfl rfl (by kernel_rfl) (fun _ _ _ h => h) (Or.inr ⟨by kernel_rfl, rfl⟩) rfl ?_
              simp only [Act.put, List.setIfInBounds_toArray, List.set_cons_zero, List.set_cons_succ]
              refine pure_ (i := 27) (N := some 76) (v := .bool false) (lN 29 28) rfl rfl (by kernel_rfl) (fun _ _ _ h => h) (Or.inl ⟨by kernel_rfl, fun w' => by kernel_rfl⟩) rfl ?_
              simp only [Act.put, List.setIfInBounds_toArray, List.set_cons_zero, List.set_cons_succ]
              refine pure_ (i := 28) (N := some 48) (v := .bool false) (lN 29 29) rfl rfl (by kernel_rfl) (fun _ _ _ h => h) (Or.inl ⟨by kernel_rfl, fun w' => by kernel_rfl⟩) rfl ?_
              simp only [Act.put, List.setIfInBounds_toArray, List.set_cons_zero, List.set_cons_succ]
              refine done_ (by kernel_rfl) ?_
              go_wp2
              go_ret
              exact ⟨by rw [HO.out, HL.out, show decideI sh a s o lf = 3 by unfold decideI; rw [if_neg (by rw [Q1.out]; decide), if_neg (by rw [Q2.out]; decide), if_neg (fun h => by have := QZ.out; have := h.2; omega), if_neg (by have := Q4.out; omega), if_pos QS.out]]; rfl, HBF.out⟩
            | false =>
              have QS := Aside0.mk qs
              clear qs
              cases qh : a.h3 with
              | true =>
                have Qh3 := Aside0.mk qh
                clear qh
                refine start_ (n := 29) (S := fun w' => w'.heap[B0]? = some (.cells a.cells 34 (0, 0)) ∧ w'.heap[B0 + 1]? = some (.cells s.cells 34 (0, 0))) (ds := []) (lN 29 0) (by kernel_rfl) rfl rfl ⟨blk_drew HA.out, blk_drew HS.out⟩ (fun hHeld => ?_)
                have n0_ := Aside0.mk (blk_drew HA.out); have n1_ := Aside0.mk (blk_drew HS.out); have n2_ := Aside0.mk (below_drew1 HBF.out); clear HA HS HBF; have HA := n0_; have HS := n1_; have HBF := n2_; clear n0_ n1_ n2_
                generalize World.drew _ = wd at HA HS HBF hHeld ⊢
                refine pure_ (i := 0) (N := some 49) (v := .bool sh) (lN 29 1) rfl rfl (by kernel_rfl) (fun _ _ _ h => h) (Or.inl ⟨by kernel_rfl, fun w' => by kernel_rfl⟩) rfl ?_
                simp only [Act.put, List.setIfInBounds_toArray, List.set_cons_zero, List.set_cons_succ]
                refine take_ (i := 1) (N := some 50) (v := .agg s.cells) (lN 29 2) rfl rfl (by kernel_rfl) (fun _ _ _ h => h) (Or.inl ⟨by kernel_rfl, fun w' hs => us_load 34 (run_loadVar_row w' (B0 + 1) 34 34 s.cells (0, 0) _ hs.2 hu35 rfl (cc_info.trans HSS.out)) rfl rfl⟩) hHeld rfl ?_
                simp only [Act.put, List.setIfInBounds_toArray, List.set_cons_zero, List.set_cons_succ]
                refine one_ (i := 2) (N := some 51) (lN 29 3) rfl rfl (by kernel_rfl) (by decide) (fun K hK => ?_)
                refine goes_ Tryd.func22 (by kernel_rfl) rfl #[.bool sh, .agg s.cells] (by kernel_rfl) rfl rfl (by first | rfl | (simp only [List.map_toArray, List.map_cons, List.map_nil]; rfl)) ?_
                with_reducible refine (use_strict.own sh s _).mono ?_
                rintro e wn2 ⟨rfl, hb⟩
                refine ⟨.bool (strictB sh s), rfl, ?_⟩
                have n0_ := Aside0.mk (HBF.out.trans (hb.mono HBF.out.size)); have n1_ := Aside0.mk (blk_below HA.out hb); have n2_ := Aside0.mk (blk_below HS.out hb); clear HBF HA HS hb; have HBF := n0_; have HA := n1_; have HS := n2_; clear n0_ n1_ n2_; clear hHeld
                refine hK.out _ _ ⟨HA.out, HS.out⟩ (fun hHeld => ?_)
                clear hK K
                rw [QS.out]
                simp only [Act.put, List.setIfInBounds_toArray, List.set_cons_zero, List.set_cons_succ]
                refine pure_ (i := 3) (N := some 52) (v := .bool true) (lN 29 4) rfl rfl (by kernel_rfl) (fun _ _ _ h => h) (Or.inl ⟨by kernel_rfl, fun w' => by kernel_rfl⟩) rfl ?_
                simp only [Act.put, List.setIfInBounds_toArray, List.set_cons_zero, List.set_cons_succ]
                refine pure_ (i := 4) (N := some 53) (v := .bool true) (lN 29 5) rfl rfl (by kernel_rfl) (fun _ _ _ h => h) (Or.inl ⟨by kernel_rfl, fun w' => by kernel_rfl⟩) rfl ?_
                simp only [Act.put, List.setIfInBounds_toArray, List.set_cons_zero, List.set_cons_succ]
                refine pure_ (i := 5) (N := some 54) (v := .pointer (some ⟨B0, 17, none⟩)) (lN 29 6) rfl rfl (by kernel_rfl) (fun _ _ _ h => h) (Or.inl ⟨by kernel_rfl, fun w' => by kernel_rfl⟩) rfl ?_
                simp only [Act.put, List.setIfInBounds_toArray, List.set_cons_zero, List.set_cons_succ]
                refine pure_ (i := 6) (N := some 55) (v := .pointer (some ⟨B0, 17, none⟩)) (lN 29 7) rfl rfl (by kernel_rfl) (fun _ _ _ h => h) (Or.inl ⟨by kernel_rfl, fun w' => by kernel_rfl⟩) rfl ?_
                simp only [Act.put, List.setIfInBounds_toArray, List.set_cons_zero, List.set_cons_succ]
                refine take_ (i := 7) (N := some 56) (v := .bool true) (lN 29 8) rfl rfl (by kernel_rfl) (fun _ _ _ h => h) (Or.inl ⟨by kernel_rfl, fun w' hs => us_load 4 (us_bool ((blk_cell hs.1 17).trans (show a.cells[17]? = some (.bool true) by show some (Value.bool a.h3) = _; rw [Qh3.out]))) rfl rfl⟩) hHeld rfl ?_
                simp only [Act.put, List.setIfInBounds_toArray, List.set_cons_zero, List.set_cons_succ]
                refine pure_ (i := 8) (N := some 57) (v := .bool false) (lN 29 9) rfl rfl (by kernel_rfl) (fun _ _ _ h => h) (Or.inl ⟨by kernel_rfl, fun w' => by kernel_rfl⟩) rfl ?_
                simp only [Act.put, List.setIfInBounds_toArray, List.set_cons_zero, List.set_cons_succ]
                refine pure_ (i := 9) (N := some 58) (v := .bool false) (lN 29 10) rfl rfl (by kernel_rfl) (fun _ _ _ h => h) (Or.inl ⟨by kernel_rfl, fun w' => by kernel_rfl⟩) rfl ?_
                simp only [Act.put, List.setIfInBounds_toArray, List.set_cons_zero, List.set_cons_succ]
                refine pure_ (i := 10) (N := some 59) (v := .bool false) (lN 29 11) rfl rfl (by kernel_rfl) (fun _ _ _ h => h) (Or.inl ⟨by kernel_rfl, fun w' => by kernel_rfl⟩) rfl ?_
                simp only [Act.put, List.setIfInBounds_toArray, List.set_cons_zero, List.set_cons_succ]
                refine pure_ (i := 11) (N := some 60) (v := undef) (lN 29 12) rfl rfl (by kernel_rfl) (fun _ _ _ h => h) (Or.inr ⟨by kernel_rfl, rfl⟩) rfl ?_
                simp only [Act.put, List.setIfInBounds_toArray, List.set_cons_zero, List.set_cons_succ]
                refine pure_ (i := 12) (N := some 61) (v := undef) (lN 29 13) rfl rfl (by kernel_rfl) (fun _ _ _ h => h) (Or.inr ⟨by kernel_rfl, rfl⟩) rfl ?_
                simp only [Act.put, List.setIfInBounds_toArray, List.set_cons_zero, List.set_cons_succ]
                refine pure_ (i := 13) (N := some 62) (v := undef) (lN 29 14) rfl rfl (by kernel_rfl) (fun _ _ _ h => h) (Or.inr ⟨by kernel_rfl, rfl⟩) rfl ?_
                simp only [Act.put, List.setIfInBounds_toArray, List.set_cons_zero, List.set_cons_succ]
                refine pure_ (i := 14) (N := some 63) (v := undef) (lN 29 15) rfl rfl (by kernel_rfl) (fun _ _ _ h => h) (Or.inr ⟨by kernel_rfl, rfl⟩) rfl ?_
                simp only [Act.put, List.setIfInBounds_toArray, List.set_cons_zero, List.set_cons_succ]
                refine pure_ (i := 15) (N := some 64) (v := undef) (lN 29 16) rfl rfl (by kernel_rfl) (fun _ _ _ h => h) (Or.inr ⟨by kernel_rfl, rfl⟩) rfl ?_
                simp only [Act.put, List.setIfInBounds_toArray, List.set_cons_zero, List.set_cons_succ]
                refine pure_ (i := 16) (N := some 65) (v := undef) (lN 29 17) rfl rfl (by kernel_rfl) (fun _ _ _ h => h) (Or.inr ⟨by kernel_rfl, rfl⟩) rfl ?_
                simp only [Act.put, List.setIfInBounds_toArray, List.set_cons_zero, List.set_cons_succ]
                refine pure_ (i := 17) (N := some 66) (v := undef) (lN 29 18) rfl rfl (by kernel_rfl) (fun _ _ _ h => h) (Or.inr ⟨by kernel_rfl, rfl⟩) rfl ?_
                simp only [Act.put, List.setIfInBounds_toArray, List.set_cons_zero, List.set_cons_succ]
                refine pure_ (i := 18) (N := some 67) (v := undef) (lN 29 19) rfl rfl (by kernel_rfl) (fun _ _ _ h => h) (Or.inr ⟨by kernel_rfl, rfl⟩) rfl ?_
                simp only [Act.put, List.setIfInBounds_toArray, List.set_cons_zero, List.set_cons_succ]
                refine pure_ (i := 19) (N := some 68) (v := undef) (lN 29 20) rfl rfl (by kernel_rfl) (fun _ _ _ h => h) (Or.inr ⟨by kernel_rfl, rfl⟩) rfl ?_
                simp only [Act.put, List.setIfInBounds_toArray, List.set_cons_zero, List.set_cons_succ]
                refine pure_ (i := 20) (N := some 69) (v := undef) (lN 29 21) rfl rfl (by kernel_rfl) (fun _ _ _ h => h) (Or.inr ⟨by kernel_rfl, rfl⟩) rfl ?_
                simp only [Act.put, List.setIfInBounds_toArray, List.set_cons_zero, List.set_cons_succ]
                refine pure_ (i := 21) (N := some 70) (v := undef) (lN 29 22) rfl rfl (by kernel_rfl) (fun _ _ _ h => h) (Or.inr ⟨by kernel_rfl, rfl⟩) rfl ?_
                simp only [Act.put, List.setIfInBounds_toArray, List.set_cons_zero, List.set_cons_succ]
                refine pure_ (i := 22) (N := some 71) (v := undef) (lN 29 23) rfl rfl (by kernel_rfl) (fun _ _ _ h => h) (Or.inr ⟨by kernel_rfl, rfl⟩) rfl ?_
                simp only [Act.put, List.setIfInBounds_toArray, List.set_cons_zero, List.set_cons_succ]
                refine pure_ (i := 23) (N := some 72) (v := undef) (lN 29 24) rfl rfl (by kernel_rfl) (fun _ _ _ h => h) (Or.inr ⟨by kernel_rfl, rfl⟩) rfl ?_
                simp only [Act.put, List.setIfInBounds_toArray, List.set_cons_zero, List.set_cons_succ]
                refine pure_ (i := 24) (N := some 73) (v := undef) (lN 29 25) rfl rfl (by kernel_rfl) (fun _ _ _ h => h) (Or.inr ⟨by kernel_rfl, rfl⟩) rfl ?_
                simp only [Act.put, List.setIfInBounds_toArray, List.set_cons_zero, List.set_cons_succ]
                refine pure_ (i := 25) (N := some 74) (v := undef) (lN 29 26) rfl rfl (by kernel_rfl) (fun _ _ _ h => h) (Or.inr ⟨by kernel_rfl, rfl⟩) rfl ?_
                simp only [Act.put, List.setIfInBounds_toArray, List.set_cons_zero, List.set_cons_succ]
                refine pure_ (i := 26) (N := some 75) (v := undef) (lN 29 27) rfl rfl (by kernel_rfl) (fun _ _ _ h => h) (Or.inr ⟨by kernel_rfl, rfl⟩) rfl ?_
                simp only [Act.put, List.setIfInBounds_toArray, List.set_cons_zero, List.set_cons_succ]
                refine pure_ (i := 27) (N := some 76) (v := .bool false) (lN 29 28) rfl rfl (by kernel_rfl) (fun _ _ _ h => h) (Or.inl ⟨by kernel_rfl, fun w' => by kernel_rfl⟩) rfl ?_
                simp only [Act.put, List.setIfInBounds_toArray, List.set_cons_zero, List.set_cons_succ]
                refine pure_ (i := 28) (N := some 48) (v := .bool false) (lN 29 29) rfl rfl (by kernel_rfl) (fun _ _ _ h => h) (Or.inl ⟨by kernel_rfl, fun w' => by kernel_rfl⟩) rfl ?_
                simp only [Act.put, List.setIfInBounds_toArray, List.set_cons_zero, List.set_cons_succ]
                refine done_ (by kernel_rfl) ?_
                go_wp2
                go_ret
                exact ⟨by rw [HO.out, HL.out, show decideI sh a s o lf = 3 by unfold decideI; rw [if_neg (by rw [Q1.out]; decide), if_neg (by rw [Q2.out]; decide), if_neg (fun h => by have := QZ.out; have := h.2; omega), if_neg (by have := Q4.out; omega), if_neg (by rw [QS.out]; decide), if_pos Qh3.out]]; rfl, HBF.out⟩
              | false =>
                have Qh3 := Aside0.mk qh
                clear qh
                cases qb : a.b10 with
                | true =>
                  have Qb10 := Aside0.mk qb
                  clear qb
                  refine start_ (n := 29) (S := fun w' => w'.heap[B0]? = some (.cells a.cells 34 (0, 0)) ∧ w'.heap[B0 + 1]? = some (.cells s.cells 34 (0, 0))) (ds := []) (lN 29 0) (by kernel_rfl) rfl rfl ⟨blk_drew HA.out, blk_drew HS.out⟩ (fun hHeld => ?_)
                  have n0_ := Aside0.mk (blk_drew HA.out); have n1_ := Aside0.mk (blk_drew HS.out); have n2_ := Aside0.mk (below_drew1 HBF.out); clear HA HS HBF; have HA := n0_; have HS := n1_; have HBF := n2_; clear n0_ n1_ n2_
                  generalize World.drew _ = wd at HA HS HBF hHeld ⊢
                  refine pure_ (i := 0) (N := some 49) (v := .bool sh) (lN 29 1) rfl rfl (by kernel_rfl) (fun _ _ _ h => h) (Or.inl ⟨by kernel_rfl, fun w' => by kernel_rfl⟩) rfl ?_
                  simp only [Act.put, List.setIfInBounds_toArray, List.set_cons_zero, List.set_cons_succ]
                  refine take_ (i := 1) (N := some 50) (v := .agg s.cells) (lN 29 2) rfl rfl (by kernel_rfl) (fun _ _ _ h => h) (Or.inl ⟨by kernel_rfl, fun w' hs => us_load 34 (run_loadVar_row w' (B0 + 1) 34 34 s.cells (0, 0) _ hs.2 hu35 rfl (cc_info.trans HSS.out)) rfl rfl⟩) hHeld rfl ?_
                  simp only [Act.put, List.setIfInBounds_toArray, List.set_cons_zero, List.set_cons_succ]
                  refine one_ (i := 2) (N := some 51) (lN 29 3) rfl rfl (by kernel_rfl) (by decide) (fun K hK => ?_)
                  refine goes_ Tryd.func22 (by kernel_rfl) rfl #[.bool sh, .agg s.cells] (by kernel_rfl) rfl rfl (by first | rfl | (simp only [List.map_toArray, List.map_cons, List.map_nil]; rfl)) ?_
                  with_reducible refine (use_strict.own sh s _).mono ?_
                  rintro e wn2 ⟨rfl, hb⟩
                  refine ⟨.bool (strictB sh s), rfl, ?_⟩
                  have n0_ := Aside0.mk (HBF.out.trans (hb.mono HBF.out.size)); have n1_ := Aside0.mk (blk_below HA.out hb); have n2_ := Aside0.mk (blk_below HS.out hb); clear HBF HA HS hb; have HBF := n0_; have HA := n1_; have HS := n2_; clear n0_ n1_ n2_; clear hHeld
                  refine hK.out _ _ ⟨HA.out, HS.out⟩ (fun hHeld => ?_)
                  clear hK K
                  rw [QS.out]
                  simp only [Act.put, List.setIfInBounds_toArray, List.set_cons_zero, List.set_cons_succ]
                  refine pure_ (i := 3) (N := some 52) (v := .bool true) (lN 29 4) rfl rfl (by kernel_rfl) (fun _ _ _ h => h) (Or.inl ⟨by kernel_rfl, fun w' => by kernel_rfl⟩) rfl ?_
                  simp only [Act.put, List.setIfInBounds_toArray, List.set_cons_zero, List.set_cons_succ]
                  refine pure_ (i := 4) (N := some 53) (v := .bool true) (lN 29 5) rfl rfl (by kernel_rfl) (fun _ _ _ h => h) (Or.inl ⟨by kernel_rfl, fun w' => by kernel_rfl⟩) rfl ?_
                  simp only [Act.put, List.setIfInBounds_toArray, List.set_cons_zero, List.set_cons_succ]
                  refine pure_ (i := 5) (N := some 54) (v := .pointer (some ⟨B0, 17, none⟩)) (lN 29 6) rfl rfl (by kernel_rfl) (fun _ _ _ h => h) (Or.inl ⟨by kernel_rfl, fun w' => by kernel_rfl⟩) rfl ?_
                  simp only [Act.put, List.setIfInBounds_toArray, List.set_cons_zero, List.set_cons_succ]
                  refine pure_ (i := 6) (N := some 55) (v := .pointer (some ⟨B0, 17, none⟩)) (lN 29 7) rfl rfl (by kernel_rfl) (fun _ _ _ h => h) (Or.inl ⟨by kernel_rfl, fun w' => by kernel_rfl⟩) rfl ?_
                  simp only [Act.put, List.setIfInBounds_toArray, List.set_cons_zero, List.set_cons_succ]
                  refine take_ (i := 7) (N := some 56) (v := .bool false) (lN 29 8) rfl rfl (by kernel_rfl) (fun _ _ _ h => h) (Or.inl ⟨by kernel_rfl, fun w' hs => us_load 4 (us_bool ((blk_cell hs.1 17).trans (show a.cells[17]? = some (.bool false) by show some (Value.bool a.h3) = _; rw [Qh3.out]))) rfl rfl⟩) hHeld rfl ?_
                  simp only [Act.put, List.setIfInBounds_toArray, List.set_cons_zero, List.set_cons_succ]
                  refine pure_ (i := 8) (N := some 57) (v := .bool true) (lN 29 9) rfl rfl (by kernel_rfl) (fun _ _ _ h => h) (Or.inl ⟨by kernel_rfl, fun w' => by kernel_rfl⟩) rfl ?_
                  simp only [Act.put, List.setIfInBounds_toArray, List.set_cons_zero, List.set_cons_succ]
                  refine pure_ (i := 9) (N := some 58) (v := .bool true) (lN 29 10) rfl rfl (by kernel_rfl) (fun _ _ _ h => h) (Or.inl ⟨by kernel_rfl, fun w' => by kernel_rfl⟩) rfl ?_
                  simp only [Act.put, List.setIfInBounds_toArray, List.set_cons_zero, List.set_cons_succ]
                  refine pure_ (i := 10) (N := some 59) (v := .bool true) (lN 29 11) rfl rfl (by kernel_rfl) (fun _ _ _ h => h) (Or.inl ⟨by kernel_rfl, fun w' => by kernel_rfl⟩) rfl ?_
                  simp only [Act.put, List.setIfInBounds_toArray, List.set_cons_zero, List.set_cons_succ]
                  refine pure_ (i := 11) (N := some 60) (v := .pointer (some ⟨B0, 10, none⟩)) (lN 29 12) rfl rfl (by kernel_rfl) (fun _ _ _ h => h) (Or.inl ⟨by kernel_rfl, fun w' => by kernel_rfl⟩) rfl ?_
                  simp only [Act.put, List.setIfInBounds_toArray, List.set_cons_zero, List.set_cons_succ]
                  refine take_ (i := 12) (N := some 61) (v := .bool true) (lN 29 13) rfl rfl (by kernel_rfl) (fun _ _ _ h => h) (Or.inl ⟨by kernel_rfl, fun w' hs => us_load 4 (us_bool ((blk_cell hs.1 10).trans (show a.cells[10]? = some (.bool true) by show some (Value.bool a.b10) = _; rw [Qb10.out]))) rfl rfl⟩) hHeld rfl ?_
                  simp only [Act.put, List.setIfInBounds_toArray, List.set_cons_zero, List.set_cons_succ]
                  refine pure_ (i := 13) (N := some 62) (v := .bool true) (lN 29 14) rfl rfl (by kernel_rfl) (fun _ _ _ h => h) (Or.inl ⟨by kernel_rfl, fun w' => by kernel_rfl⟩) rfl ?_
                  simp only [Act.put, List.setIfInBounds_toArray, List.set_cons_zero, List.set_cons_succ]
                  refine pure_ (i := 14) (N := some 63) (v := undef) (lN 29 15) rfl rfl (by kernel_rfl) (fun _ _ _ h => h) (Or.inr ⟨by kernel_rfl, rfl⟩) rfl ?_
                  simp only [Act.put, List.setIfInBounds_toArray, List.set_cons_zero, List.set_cons_succ]
                  refine pure_ (i := 15) (N := some 64) (v := undef) (lN 29 16) rfl rfl (by kernel_rfl) (fun _ _ _ h => h) (Or.inr ⟨by kernel_rfl, rfl⟩) rfl ?_
                  simp only [Act.put, List.setIfInBounds_toArray, List.set_cons_zero, List.set_cons_succ]
                  refine pure_ (i := 16) (N := some 65) (v := undef) (lN 29 17) rfl rfl (by kernel_rfl) (fun _ _ _ h => h) (Or.inr ⟨by kernel_rfl, rfl⟩) rfl ?_
                  simp only [Act.put, List.setIfInBounds_toArray, List.set_cons_zero, List.set_cons_succ]
                  refine pure_ (i := 17) (N := some 66) (v := undef) (lN 29 18) rfl rfl (by kernel_rfl) (fun _ _ _ h => h) (Or.inr ⟨by kernel_rfl, rfl⟩) rfl ?_
                  simp only [Act.put, List.setIfInBounds_toArray, List.set_cons_zero, List.set_cons_succ]
                  refine pure_ (i := 18) (N := some 67) (v := undef) (lN 29 19) rfl rfl (by kernel_rfl) (fun _ _ _ h => h) (Or.inr ⟨by kernel_rfl, rfl⟩) rfl ?_
                  simp only [Act.put, List.setIfInBounds_toArray, List.set_cons_zero, List.set_cons_succ]
                  refine pure_ (i := 19) (N := some 68) (v := undef) (lN 29 20) rfl rfl (by kernel_rfl) (fun _ _ _ h => h) (Or.inr ⟨by kernel_rfl, rfl⟩) rfl ?_
                  simp only [Act.put, List.setIfInBounds_toArray, List.set_cons_zero, List.set_cons_succ]
                  refine pure_ (i := 20) (N := some 69) (v := undef) (lN 29 21) rfl rfl (by kernel_rfl) (fun _ _ _ h => h) (Or.inr ⟨by kernel_rfl, rfl⟩) rfl ?_
                  simp only [Act.put, List.setIfInBounds_toArray, List.set_cons_zero, List.set_cons_succ]
                  refine pure_ (i := 21) (N := some 70) (v := undef) (lN 29 22) rfl rfl (by kernel_rfl) (fun _ _ _ h => h) (Or.inr ⟨by kernel_rfl, rfl⟩) rfl ?_
                  simp only [Act.put, List.setIfInBounds_toArray, List.set_cons_zero, List.set_cons_succ]
                  refine pure_ (i := 22) (N := some 71) (v := undef) (lN 29 23) rfl rfl (by kernel_rfl) (fun _ _ _ h => h) (Or.inr ⟨by kernel_rfl, rfl⟩) rfl ?_
                  simp only [Act.put, List.setIfInBounds_toArray, List.set_cons_zero, List.set_cons_succ]
                  refine pure_ (i := 23) (N := some 72) (v := undef) (lN 29 24) rfl rfl (by kernel_rfl) (fun _ _ _ h => h) (Or.inr ⟨by kernel_rfl, rfl⟩) rfl ?_
                  simp only [Act.put, List.setIfInBounds_toArray, List.set_cons_zero, List.set_cons_succ]
                  refine pure_ (i := 24) (N := some 73) (v := undef) (lN 29 25) rfl rfl (by kernel_rfl) (fun _ _ _ h => h) (Or.inr ⟨by kernel_rfl, rfl⟩) rfl ?_
                  simp only [Act.put, List.setIfInBounds_toArray, List.set_cons_zero, List.set_cons_succ]
                  refine pure_ (i := 25) (N := some 74) (v := undef) (lN 29 26) rfl rfl (by kernel_rfl) (fun _ _ _ h => h) (Or.inr ⟨by kernel_rfl, rfl⟩) rfl ?_
                  simp only [Act.put, List.setIfInBounds_toArray, List.set_cons_zero, List.set_cons_succ]
                  refine pure_ (i := 26) (N := some 75) (v := .bool true) (lN 29 27) rfl rfl (by kernel_rfl) (fun _ _ _ h => h) (Or.inl ⟨by kernel_rfl, fun w' => by kernel_rfl⟩) rfl ?_
                  simp only [Act.put, List.setIfInBounds_toArray, List.set_cons_zero, List.set_cons_succ]
                  refine pure_ (i := 27) (N := some 76) (v := .bool true) (lN 29 28) rfl rfl (by kernel_rfl) (fun _ _ _ h => h) (Or.inl ⟨by kernel_rfl, fun w' => by kernel_rfl⟩) rfl ?_
                  simp only [Act.put, List.setIfInBounds_toArray, List.set_cons_zero, List.set_cons_succ]
                  refine pure_ (i := 28) (N := some 48) (v := .bool true) (lN 29 29) rfl rfl (by kernel_rfl) (fun _ _ _ h => h) (Or.inl ⟨by kernel_rfl, fun w' => by kernel_rfl⟩) rfl ?_
                  simp only [Act.put, List.setIfInBounds_toArray, List.set_cons_zero, List.set_cons_succ]
                  refine done_ (by kernel_rfl) ?_
                  go_wp2
                  go_ret
                  exact ⟨by rw [HO.out, HL.out, show decideI sh a s o lf = 2 by unfold decideI; rw [if_neg (by rw [Q1.out]; decide), if_neg (by rw [Q2.out]; decide), if_neg (fun h => by have := QZ.out; have := h.2; omega), if_neg (by have := Q4.out; omega), if_neg (by rw [QS.out]; decide), if_neg (by rw [Qh3.out]; decide), if_pos Qb10.out]]; rfl, HBF.out⟩
                | false =>
                  have Qb10 := Aside0.mk qb
                  clear qb
                  cases qg : a.h2 with
                  | false =>
                    have Qh2 := Aside0.mk qg
                    clear qg
                    refine start_ (n := 29) (S := fun w' => w'.heap[B0]? = some (.cells a.cells 34 (0, 0)) ∧ w'.heap[B0 + 1]? = some (.cells s.cells 34 (0, 0))) (ds := []) (lN 29 0) (by kernel_rfl) rfl rfl ⟨blk_drew HA.out, blk_drew HS.out⟩ (fun hHeld => ?_)
                    have n0_ := Aside0.mk (blk_drew HA.out); have n1_ := Aside0.mk (blk_drew HS.out); have n2_ := Aside0.mk (below_drew1 HBF.out); clear HA HS HBF; have HA := n0_; have HS := n1_; have HBF := n2_; clear n0_ n1_ n2_
                    generalize World.drew _ = wd at HA HS HBF hHeld ⊢
                    refine pure_ (i := 0) (N := some 49) (v := .bool sh) (lN 29 1) rfl rfl (by kernel_rfl) (fun _ _ _ h => h) (Or.inl ⟨by kernel_rfl, fun w' => by kernel_rfl⟩) rfl ?_
                    simp only [Act.put, List.setIfInBounds_toArray, List.set_cons_zero, List.set_cons_succ]
                    refine take_ (i := 1) (N := some 50) (v := .agg s.cells) (lN 29 2) rfl rfl (by kernel_rfl) (fun _ _ _ h => h) (Or.inl ⟨by kernel_rfl, fun w' hs => us_load 34 (run_loadVar_row w' (B0 + 1) 34 34 s.cells (0, 0) _ hs.2 hu35 rfl (cc_info.trans HSS.out)) rfl rfl⟩) hHeld rfl ?_
                    simp only [Act.put, List.setIfInBounds_toArray, List.set_cons_zero, List.set_cons_succ]
                    refine one_ (i := 2) (N := some 51) (lN 29 3) rfl rfl (by kernel_rfl) (by decide) (fun K hK => ?_)
                    refine goes_ Tryd.func22 (by kernel_rfl) rfl #[.bool sh, .agg s.cells] (by kernel_rfl) rfl rfl (by first | rfl | (simp only [List.map_toArray, List.map_cons, List.map_nil]; rfl)) ?_
                    with_reducible refine (use_strict.own sh s _).mono ?_
                    rintro e wn2 ⟨rfl, hb⟩
                    refine ⟨.bool (strictB sh s), rfl, ?_⟩
                    have n0_ := Aside0.mk (HBF.out.trans (hb.mono HBF.out.size)); have n1_ := Aside0.mk (blk_below HA.out hb); have n2_ := Aside0.mk (blk_below HS.out hb); clear HBF HA HS hb; have HBF := n0_; have HA := n1_; have HS := n2_; clear n0_ n1_ n2_; clear hHeld
                    refine hK.out _ _ ⟨HA.out, HS.out⟩ (fun hHeld => ?_)
                    clear hK K
                    rw [QS.out]
                    simp only [Act.put, List.setIfInBounds_toArray, List.set_cons_zero, List.set_cons_succ]
                    refine pure_ (i := 3) (N := some 52) (v := .bool true) (lN 29 4) rfl rfl (by kernel_rfl) (fun _ _ _ h => h) (Or.inl ⟨by kernel_rfl, fun w' => by kernel_rfl⟩) rfl ?_
                    simp only [Act.put, List.setIfInBounds_toArray, List.set_cons_zero, List.set_cons_succ]
                    refine pure_ (i := 4) (N := some 53) (v := .bool true) (lN 29 5) rfl rfl (by kernel_rfl) (fun _ _ _ h => h) (Or.inl ⟨by kernel_rfl, fun w' => by kernel_rfl⟩) rfl ?_
                    simp only [Act.put, List.setIfInBounds_toArray, List.set_cons_zero, List.set_cons_succ]
                    refine pure_ (i := 5) (N := some 54) (v := .pointer (some ⟨B0, 17, none⟩)) (lN 29 6) rfl rfl (by kernel_rfl) (fun _ _ _ h => h) (Or.inl ⟨by kernel_rfl, fun w' => by kernel_rfl⟩) rfl ?_
                    simp only [Act.put, List.setIfInBounds_toArray, List.set_cons_zero, List.set_cons_succ]
                    refine pure_ (i := 6) (N := some 55) (v := .pointer (some ⟨B0, 17, none⟩)) (lN 29 7) rfl rfl (by kernel_rfl) (fun _ _ _ h => h) (Or.inl ⟨by kernel_rfl, fun w' => by kernel_rfl⟩) rfl ?_
                    simp only [Act.put, List.setIfInBounds_toArray, List.set_cons_zero, List.set_cons_succ]
                    refine take_ (i := 7) (N := some 56) (v := .bool false) (lN 29 8) rfl rfl (by kernel_rfl) (fun _ _ _ h => h) (Or.inl ⟨by kernel_rfl, fun w' hs => us_load 4 (us_bool ((blk_cell hs.1 17).trans (show a.cells[17]? = some (.bool false) by show some (Value.bool a.h3) = _; rw [Qh3.out]))) rfl rfl⟩) hHeld rfl ?_
                    simp only [Act.put, List.setIfInBounds_toArray, List.set_cons_zero, List.set_cons_succ]
                    refine pure_ (i := 8) (N := some 57) (v := .bool true) (lN 29 9) rfl rfl (by kernel_rfl) (fun _ _ _ h => h) (Or.inl ⟨by kernel_rfl, fun w' => by kernel_rfl⟩) rfl ?_
                    simp only [Act.put, List.setIfInBounds_toArray, List.set_cons_zero, List.set_cons_succ]
                    refine pure_ (i := 9) (N := some 58) (v := .bool true) (lN 29 10) rfl rfl (by kernel_rfl) (fun _ _ _ h => h) (Or.inl ⟨by kernel_rfl, fun w' => by kernel_rfl⟩) rfl ?_
                    simp only [Act.put, List.setIfInBounds_toArray, List.set_cons_zero, List.set_cons_succ]
                    refine pure_ (i := 10) (N := some 59) (v := .bool true) (lN 29 11) rfl rfl (by kernel_rfl) (fun _ _ _ h => h) (Or.inl ⟨by kernel_rfl, fun w' => by kernel_rfl⟩) rfl ?_
                    simp only [Act.put, List.setIfInBounds_toArray, List.set_cons_zero, List.set_cons_succ]
                    refine pure_ (i := 11) (N := some 60) (v := .pointer (some ⟨B0, 10, none⟩)) (lN 29 12) rfl rfl (by kernel_rfl) (fun _ _ _ h => h) (Or.inl ⟨by kernel_rfl, fun w' => by kernel_rfl⟩) rfl ?_
                    simp only [Act.put, List.setIfInBounds_toArray, List.set_cons_zero, List.set_cons_succ]
                    refine take_ (i := 12) (N := some 61) (v := .bool false) (lN 29 13) rfl rfl (by kernel_rfl) (fun _ _ _ h => h) (Or.inl ⟨by kernel_rfl, fun w' hs => us_load 4 (us_bool ((blk_cell hs.1 10).trans (show a.cells[10]? = some (.bool false) by show some (Value.bool a.b10) = _; rw [Qb10.out]))) rfl rfl⟩) hHeld rfl ?_
                    simp only [Act.put, List.setIfInBounds_toArray, List.set_cons_zero, List.set_cons_succ]
                    refine pure_ (i := 13) (N := some 62) (v := .bool false) (lN 29 14) rfl rfl (by kernel_rfl) (fun _ _ _ h => h) (Or.inl ⟨by kernel_rfl, fun w' => by kernel_rfl⟩) rfl ?_
                    simp only [Act.put, List.setIfInBounds_toArray, List.set_cons_zero, List.set_cons_succ]
                    refine pure_ (i := 14) (N := some 63) (v := .pointer (some ⟨B0, 15, none⟩)) (lN 29 15) rfl rfl (by kernel_rfl) (fun _ _ _ h => h) (Or.inl ⟨by kernel_rfl, fun w' => by kernel_rfl⟩) rfl ?_
                    simp only [Act.put, List.setIfInBounds_toArray, List.set_cons_zero, List.set_cons_succ]
                    refine pure_ (i := 15) (N := some 64) (v := .pointer (some ⟨B0, 15, none⟩)) (lN 29 16) rfl rfl (by kernel_rfl) (fun _ _ _ h => h) (Or.inl ⟨by kernel_rfl, fun w' => by kernel_rfl⟩) rfl ?_
                    simp only [Act.put, List.setIfInBounds_toArray, List.set_cons_zero, List.set_cons_succ]
                    refine take_ (i := 16) (N := some 65) (v := .bool false) (lN 29 17) rfl rfl (by kernel_rfl) (fun _ _ _ h => h) (Or.inl ⟨by kernel_rfl, fun w' hs => us_load 4 (us_bool ((blk_cell hs.1 15).trans (show a.cells[15]? = some (.bool false) by show some (Value.bool a.h2) = _; rw [Qh2.out]))) rfl rfl⟩) hHeld rfl ?_
                    simp only [Act.put, List.setIfInBounds_toArray, List.set_cons_zero, List.set_cons_succ]
                    refine pure_ (i := 17) (N := some 66) (v := .bool false) (lN 29 18) rfl rfl (by kernel_rfl) (fun _ _ _ h => h) (Or.inl ⟨by kernel_rfl, fun w' => by kernel_rfl⟩) rfl ?_
                    simp only [Act.put, List.setIfInBounds_toArray, List.set_cons_zero, List.set_cons_succ]
                    refine pure_ (i := 18) (N := some 67) (v := undef) (lN 29 19) rfl rfl (by kernel_rfl) (fun _ _ _ h => h) (Or.inr ⟨by kernel_rfl, rfl⟩) rfl ?_
                    simp only [Act.put, List.setIfInBounds_toArray, List.set_cons_zero, List.set_cons_succ]
                    refine pure_ (i := 19) (N := some 68) (v := undef) (lN 29 20) rfl rfl (by kernel_rfl) (fun _ _ _ h => h) (Or.inr ⟨by kernel_rfl, rfl⟩) rfl ?_
                    simp only [Act.put, List.setIfInBounds_toArray, List.set_cons_zero, List.set_cons_succ]
                    refine pure_ (i := 20) (N := some 69) (v := undef) (lN 29 21) rfl rfl (by kernel_rfl) (fun _ _ _ h => h) (Or.inr ⟨by kernel_rfl, rfl⟩) rfl ?_
                    simp only [Act.put, List.setIfInBounds_toArray, List.set_cons_zero, List.set_cons_succ]
                    refine pure_ (i := 21) (N := some 70) (v := undef) (lN 29 22) rfl rfl (by kernel_rfl) (fun _ _ _ h => h) (Or.inr ⟨by kernel_rfl, rfl⟩) rfl ?_
                    simp only [Act.put, List.setIfInBounds_toArray, List.set_cons_zero, List.set_cons_succ]
                    refine pure_ (i := 22) (N := some 71) (v := undef) (lN 29 23) rfl rfl (by kernel_rfl) (fun _ _ _ h => h) (Or.inr ⟨by kernel_rfl, rfl⟩) rfl ?_
                    simp only [Act.put, List.setIfInBounds_toArray, List.set_cons_zero, List.set_cons_succ]
                    refine pure_ (i := 23) (N := some 72) (v := undef) (lN 29 24) rfl rfl (by kernel_rfl) (fun _ _ _ h => h) (Or.inr ⟨by kernel_rfl, rfl⟩) rfl ?_
                    simp only [Act.put, List.setIfInBounds_toArray, List.set_cons_zero, List.set_cons_succ]
                    refine pure_ (i := 24) (N := some 73) (v := undef) (lN 29 25) rfl rfl (by kernel_rfl) (fun _ _ _ h => h) (Or.inr ⟨by kernel_rfl, rfl⟩) rfl ?_
                    simp only [Act.put, List.setIfInBounds_toArray, List.set_cons_zero, List.set_cons_succ]
                    refine pure_ (i := 25) (N := some 74) (v := .bool false) (lN 29 26) rfl rfl (by kernel_rfl) (fun _ _ _ h => h) (Or.inl ⟨by kernel_rfl, fun w' => by kernel_rfl⟩) rfl ?_
                    simp only [Act.put, List.setIfInBounds_toArray, List.set_cons_zero, List.set_cons_succ]
                    refine pure_ (i := 26) (N := some 75) (v := .bool false) (lN 29 27) rfl rfl (by kernel_rfl) (fun _ _ _ h => h) (Or.inl ⟨by kernel_rfl, fun w' => by kernel_rfl⟩) rfl ?_
                    simp only [Act.put, List.setIfInBounds_toArray, List.set_cons_zero, List.set_cons_succ]
                    refine pure_ (i := 27) (N := some 76) (v := .bool false) (lN 29 28) rfl rfl (by kernel_rfl) (fun _ _ _ h => h) (Or.inl ⟨by kernel_rfl, fun w' => by kernel_rfl⟩) rfl ?_
                    simp only [Act.put, List.setIfInBounds_toArray, List.set_cons_zero, List.set_cons_succ]
                    refine pure_ (i := 28) (N := some 48) (v := .bool false) (lN 29 29) rfl rfl (by kernel_rfl) (fun _ _ _ h => h) (Or.inl ⟨by kernel_rfl, fun w' => by kernel_rfl⟩) rfl ?_
                    simp only [Act.put, List.setIfInBounds_toArray, List.set_cons_zero, List.set_cons_succ]
                    refine done_ (by kernel_rfl) ?_
                    go_wp2
                    go_ret
                    exact ⟨by rw [HO.out, HL.out, show decideI sh a s o lf = 3 by unfold decideI; rw [if_neg (by rw [Q1.out]; decide), if_neg (by rw [Q2.out]; decide), if_neg (fun h => by have := QZ.out; have := h.2; omega), if_neg (by have := Q4.out; omega), if_neg (by rw [QS.out]; decide), if_neg (by rw [Qh3.out]; decide), if_neg (by rw [Qb10.out]; decide), if_neg (by rw [Qh2.out]; decide)]]; rfl, HBF.out⟩
                  | true =>
                    have Qh2 := Aside0.mk qg
                    clear qg
                    by_cases qn : a.n2 ≥ subI o lf
                    · have QG := Aside0.mk (decide_eq_true qn)
                      have QN := Aside0.mk qn
                      clear qn
                      refine start_ (n := 29) (S := fun w' => w'.heap[B0]? = some (.cells a.cells 34 (0, 0)) ∧ w'.heap[B0 + 1]? = some (.cells s.cells 34 (0, 0))) (ds := []) (lN 29 0) (by kernel_rfl) rfl rfl ⟨blk_drew HA.out, blk_drew HS.out⟩ (fun hHeld => ?_)
                      have n0_ := Aside0.mk (blk_drew HA.out); have n1_ := Aside0.mk (blk_drew HS.out); have n2_ := Aside0.mk (below_drew1 HBF.out); clear HA HS HBF; have HA := n0_; have HS := n1_; have HBF := n2_; clear n0_ n1_ n2_
                      generalize World.drew _ = wd at HA HS HBF hHeld ⊢
                      refine pure_ (i := 0) (N := some 49) (v := .bool sh) (lN 29 1) rfl rfl (by kernel_rfl) (fun _ _ _ h => h) (Or.inl ⟨by kernel_rfl, fun w' => by kernel_rfl⟩) rfl ?_
                      simp only [Act.put, List.setIfInBounds_toArray, List.set_cons_zero, List.set_cons_succ]
                      refine take_ (i := 1) (N := some 50) (v := .agg s.cells) (lN 29 2) rfl rfl (by kernel_rfl) (fun _ _ _ h => h) (Or.inl ⟨by kernel_rfl, fun w' hs => us_load 34 (run_loadVar_row w' (B0 + 1) 34 34 s.cells (0, 0) _ hs.2 hu35 rfl (cc_info.trans HSS.out)) rfl rfl⟩) hHeld rfl ?_
                      simp only [Act.put, List.setIfInBounds_toArray, List.set_cons_zero, List.set_cons_succ]
                      refine one_ (i := 2) (N := some 51) (lN 29 3) rfl rfl (by kernel_rfl) (by decide) (fun K hK => ?_)
                      refine goes_ Tryd.func22 (by kernel_rfl) rfl #[.bool sh, .agg s.cells] (by kernel_rfl) rfl rfl (by first | rfl | (simp only [List.map_toArray, List.map_cons, List.map_nil]; rfl)) ?_
                      with_reducible refine (use_strict.own sh s _).mono ?_
                      rintro e wn2 ⟨rfl, hb⟩
                      refine ⟨.bool (strictB sh s), rfl, ?_⟩
                      have n0_ := Aside0.mk (HBF.out.trans (hb.mono HBF.out.size)); have n1_ := Aside0.mk (blk_below HA.out hb); have n2_ := Aside0.mk (blk_below HS.out hb); clear HBF HA HS hb; have HBF := n0_; have HA := n1_; have HS := n2_; clear n0_ n1_ n2_; clear hHeld
                      refine hK.out _ _ ⟨HA.out, HS.out⟩ (fun hHeld => ?_)
                      clear hK K
                      rw [QS.out]
                      simp only [Act.put, List.setIfInBounds_toArray, List.set_cons_zero, List.set_cons_succ]
                      refine pure_ (i := 3) (N := some 52) (v := .bool true) (lN 29 4) rfl rfl (by kernel_rfl) (fun _ _ _ h => h) (Or.inl ⟨by kernel_rfl, fun w' => by kernel_rfl⟩) rfl ?_
                      simp only [Act.put, List.setIfInBounds_toArray, List.set_cons_zero, List.set_cons_succ]
                      refine pure_ (i := 4) (N := some 53) (v := .bool true) (lN 29 5) rfl rfl (by kernel_rfl) (fun _ _ _ h => h) (Or.inl ⟨by kernel_rfl, fun w' => by kernel_rfl⟩) rfl ?_
                      simp only [Act.put, List.setIfInBounds_toArray, List.set_cons_zero, List.set_cons_succ]
                      refine pure_ (i := 5) (N := some 54) (v := .pointer (some ⟨B0, 17, none⟩)) (lN 29 6) rfl rfl (by kernel_rfl) (fun _ _ _ h => h) (Or.inl ⟨by kernel_rfl, fun w' => by kernel_rfl⟩) rfl ?_
                      simp only [Act.put, List.setIfInBounds_toArray, List.set_cons_zero, List.set_cons_succ]
                      refine pure_ (i := 6) (N := some 55) (v := .pointer (some ⟨B0, 17, none⟩)) (lN 29 7) rfl rfl (by kernel_rfl) (fun _ _ _ h => h) (Or.inl ⟨by kernel_rfl, fun w' => by kernel_rfl⟩) rfl ?_
                      simp only [Act.put, List.setIfInBounds_toArray, List.set_cons_zero, List.set_cons_succ]
                      refine take_ (i := 7) (N := some 56) (v := .bool false) (lN 29 8) rfl rfl (by kernel_rfl) (fun _ _ _ h => h) (Or.inl ⟨by kernel_rfl, fun w' hs => us_load 4 (us_bool ((blk_cell hs.1 17).trans (show a.cells[17]? = some (.bool false) by show some (Value.bool a.h3) = _; rw [Qh3.out]))) rfl rfl⟩) hHeld rfl ?_
                      simp only [Act.put, List.setIfInBounds_toArray, List.set_cons_zero, List.set_cons_succ]
                      refine pure_ (i := 8) (N := some 57) (v := .bool true) (lN 29 9) rfl rfl (by kernel_rfl) (fun _ _ _ h => h) (Or.inl ⟨by kernel_rfl, fun w' => by kernel_rfl⟩) rfl ?_
                      simp only [Act.put, List.setIfInBounds_toArray, List.set_cons_zero, List.set_cons_succ]
                      refine pure_ (i := 9) (N := some 58) (v := .bool true) (lN 29 10) rfl rfl (by kernel_rfl) (fun _ _ _ h => h) (Or.inl ⟨by kernel_rfl, fun w' => by kernel_rfl⟩) rfl ?_
                      simp only [Act.put, List.setIfInBounds_toArray, List.set_cons_zero, List.set_cons_succ]
                      refine pure_ (i := 10) (N := some 59) (v := .bool true) (lN 29 11) rfl rfl (by kernel_rfl) (fun _ _ _ h => h) (Or.inl ⟨by kernel_rfl, fun w' => by kernel_rfl⟩) rfl ?_
                      simp only [Act.put, List.setIfInBounds_toArray, List.set_cons_zero, List.set_cons_succ]
                      refine pure_ (i := 11) (N := some 60) (v := .pointer (some ⟨B0, 10, none⟩)) (lN 29 12) rfl rfl (by kernel_rfl) (fun _ _ _ h => h) (Or.inl ⟨by kernel_rfl, fun w' => by kernel_rfl⟩) rfl ?_
                      simp only [Act.put, List.setIfInBounds_toArray, List.set_cons_zero, List.set_cons_succ]
                      refine take_ (i := 12) (N := some 61) (v := .bool false) (lN 29 13) rfl rfl (by kernel_rfl) (fun _ _ _ h => h) (Or.inl ⟨by kernel_rfl, fun w' hs => us_load 4 (us_bool ((blk_cell hs.1 10).trans (show a.cells[10]? = some (.bool false) by show some (Value.bool a.b10) = _; rw [Qb10.out]))) rfl rfl⟩) hHeld rfl ?_
                      simp only [Act.put, List.setIfInBounds_toArray, List.set_cons_zero, List.set_cons_succ]
                      refine pure_ (i := 13) (N := some 62) (v := .bool false) (lN 29 14) rfl rfl (by kernel_rfl) (fun _ _ _ h => h) (Or.inl ⟨by kernel_rfl, fun w' => by kernel_rfl⟩) rfl ?_
                      simp only [Act.put, List.setIfInBounds_toArray, List.set_cons_zero, List.set_cons_succ]
                      refine pure_ (i := 14) (N := some 63) (v := .pointer (some ⟨B0, 15, none⟩)) (lN 29 15) rfl rfl (by kernel_rfl) (fun _ _ _ h => h) (Or.inl ⟨by kernel_rfl, fun w' => by kernel_rfl⟩) rfl ?_
                      simp only [Act.put, List.setIfInBounds_toArray, List.set_cons_zero, List.set_cons_succ]
                      refine pure_ (i := 15) (N := some 64) (v := .pointer (some ⟨B0, 15, none⟩)) (lN 29 16) rfl rfl (by kernel_rfl) (fun _ _ _ h => h) (Or.inl ⟨by kernel_rfl, fun w' => by kernel_rfl⟩) rfl ?_
                      simp only [Act.put, List.setIfInBounds_toArray, List.set_cons_zero, List.set_cons_succ]
                      refine take_ (i := 16) (N := some 65) (v := .bool true) (lN 29 17) rfl rfl (by kernel_rfl) (fun _ _ _ h => h) (Or.inl ⟨by kernel_rfl, fun w' hs => us_load 4 (us_bool ((blk_cell hs.1 15).trans (show a.cells[15]? = some (.bool true) by show some (Value.bool a.h2) = _; rw [Qh2.out]))) rfl rfl⟩) hHeld rfl ?_
                      simp only [Act.put, List.setIfInBounds_toArray, List.set_cons_zero, List.set_cons_succ]
                      refine pure_ (i := 17) (N := some 66) (v := .bool true) (lN 29 18) rfl rfl (by kernel_rfl) (fun _ _ _ h => h) (Or.inl ⟨by kernel_rfl, fun w' => by kernel_rfl⟩) rfl ?_
                      simp only [Act.put, List.setIfInBounds_toArray, List.set_cons_zero, List.set_cons_succ]
                      refine pure_ (i := 18) (N := some 67) (v := .pointer (some ⟨B0, 15, none⟩)) (lN 29 19) rfl rfl (by kernel_rfl) (fun _ _ _ h => h) (Or.inl ⟨by kernel_rfl, fun w' => by kernel_rfl⟩) rfl ?_
                      simp only [Act.put, List.setIfInBounds_toArray, List.set_cons_zero, List.set_cons_succ]
                      refine pure_ (i := 19) (N := some 68) (v := .pointer (some ⟨B0, 16, none⟩)) (lN 29 20) rfl rfl (by kernel_rfl) (fun _ _ _ h => h) (Or.inl ⟨by kernel_rfl, fun w' => by kernel_rfl⟩) rfl ?_
                      simp only [Act.put, List.setIfInBounds_toArray, List.set_cons_zero, List.set_cons_succ]
                      refine take_ (i := 20) (N := some 69) (v := .int .i64 a.n2) (lN 29 21) rfl rfl (by kernel_rfl) (fun _ _ _ h => h) (Or.inl ⟨by kernel_rfl, fun w' hs => us_load 3 (us_int ((blk_cell hs.1 16).trans (show a.cells[16]? = some (.int .i64 a.n2) from rfl))) rfl rfl⟩) hHeld rfl ?_
                      simp only [Act.put, List.setIfInBounds_toArray, List.set_cons_zero, List.set_cons_succ]
                      refine pure_ (i := 21) (N := some 70) (v := .int .i64 o) (lN 29 22) rfl rfl (by kernel_rfl) (fun _ _ _ h => h) (Or.inl ⟨by kernel_rfl, fun w' => by kernel_rfl⟩) rfl ?_
                      simp only [Act.put, List.setIfInBounds_toArray, List.set_cons_zero, List.set_cons_succ]
                      refine pure_ (i := 22) (N := some 71) (v := .int .i64 lf) (lN 29 23) rfl rfl (by kernel_rfl) (fun _ _ _ h => h) (Or.inl ⟨by kernel_rfl, fun w' => by kernel_rfl⟩) rfl ?_
                      simp only [Act.put, List.setIfInBounds_toArray, List.set_cons_zero, List.set_cons_succ]
                      refine one_ (i := 23) (N := some 72) (lN 29 24) rfl rfl (by kernel_rfl) (by decide) (fun K hK => ?_)
                      refine goes_ Tryd.func13 (by kernel_rfl) rfl #[.int .i64 o, .int .i64 lf] (by kernel_rfl) rfl rfl (by first | rfl | (simp only [List.map_toArray, List.map_cons, List.map_nil]; rfl)) ?_
                      with_reducible refine (bits_Sub.calls o lf _ _ (Sub_is o lf)).mono ?_
                      rintro e wn23 ⟨rfl, hb⟩
                      refine ⟨.int .i64 (subI o lf), rfl, ?_⟩
                      have n0_ := Aside0.mk (HBF.out.trans (hb.mono HBF.out.size)); have n1_ := Aside0.mk (blk_below HA.out hb); have n2_ := Aside0.mk (blk_below HS.out hb); clear HBF HA HS hb; have HBF := n0_; have HA := n1_; have HS := n2_; clear n0_ n1_ n2_; clear hHeld
                      refine hK.out _ _ ⟨HA.out, HS.out⟩ (fun hHeld => ?_)
                      clear hK K
                      simp only [Act.put, List.setIfInBounds_toArray, List.set_cons_zero, List.set_cons_succ]
                      refine pure_ (i := 24) (N := some 73) (v := .bool true) (lN 29 25) rfl rfl (by kernel_rfl) (fun _ _ _ h => h) (Or.inl ⟨by kernel_rfl, fun w' => us_geq QG.out rfl rfl rfl⟩) rfl ?_
                      simp only [Act.put, List.setIfInBounds_toArray, List.set_cons_zero, List.set_cons_succ]
                      refine pure_ (i := 25) (N := some 74) (v := .bool true) (lN 29 26) rfl rfl (by kernel_rfl) (fun _ _ _ h => h) (Or.inl ⟨by kernel_rfl, fun w' => by kernel_rfl⟩) rfl ?_
                      simp only [Act.put, List.setIfInBounds_toArray, List.set_cons_zero, List.set_cons_succ]
                      refine pure_ (i := 26) (N := some 75) (v := .bool true) (lN 29 27) rfl rfl (by kernel_rfl) (fun _ _ _ h => h) (Or.inl ⟨by kernel_rfl, fun w' => by kernel_rfl⟩) rfl ?_
                      simp only [Act.put, List.setIfInBounds_toArray, List.set_cons_zero, List.set_cons_succ]
                      refine pure_ (i := 27) (N := some 76) (v := .bool true) (lN 29 28) rfl rfl (by kernel_rfl) (fun _ _ _ h => h) (Or.inl ⟨by kernel_rfl, fun w' => by kernel_rfl⟩) rfl ?_
                      simp only [Act.put, List.setIfInBounds_toArray, List.set_cons_zero, List.set_cons_succ]
                      refine pure_ (i := 28) (N := some 48) (v := .bool true) (lN 29 29) rfl rfl (by kernel_rfl) (fun _ _ _ h => h) (Or.inl ⟨by kernel_rfl, fun w' => by kernel_rfl⟩) rfl ?_
                      simp only [Act.put, List.setIfInBounds_toArray, List.set_cons_zero, List.set_cons_succ]
                      refine done_ (by kernel_rfl) ?_
                      go_wp2
                      go_ret
                      exact ⟨by rw [HO.out, HL.out, show decideI sh a s o lf = 2 by unfold decideI; rw [if_neg (by rw [Q1.out]; decide), if_neg (by rw [Q2.out]; decide), if_neg (fun h => by have := QZ.out; have := h.2; omega), if_neg (by have := Q4.out; omega), if_neg (by rw [QS.out]; decide), if_neg (by rw [Qh3.out]; decide), if_neg (by rw [Qb10.out]; decide), if_pos Qh2.out, if_pos (by have := QN.out; omega)]]; rfl, HBF.out⟩
                    · have QG := Aside0.mk (decide_eq_false qn)
                      have QN := Aside0.mk qn
                      clear qn
                      refine start_ (n := 29) (S := fun w' => w'.heap[B0]? = some (.cells a.cells 34 (0, 0)) ∧ w'.heap[B0 + 1]? = some (.cells s.cells 34 (0, 0))) (ds := []) (lN 29 0) (by kernel_rfl) rfl rfl ⟨blk_drew HA.out, blk_drew HS.out⟩ (fun hHeld => ?_)
                      have n0_ := Aside0.mk (blk_drew HA.out); have n1_ := Aside0.mk (blk_drew HS.out); have n2_ := Aside0.mk (below_drew1 HBF.out); clear HA HS HBF; have HA := n0_; have HS := n1_; have HBF := n2_; clear n0_ n1_ n2_
                      generalize World.drew _ = wd at HA HS HBF hHeld ⊢
                      refine pure_ (i := 0) (N := some 49) (v := .bool sh) (lN 29 1) rfl rfl (by kernel_rfl) (fun _ _ _ h => h) (Or.inl ⟨by kernel_rfl, fun w' => by kernel_rfl⟩) rfl ?_
                      simp only [Act.put, List.setIfInBounds_toArray, List.set_cons_zero, List.set_cons_succ]
                      refine take_ (i := 1) (N := some 50) (v := .agg s.cells) (lN 29 2) rfl rfl (by kernel_rfl) (fun _ _ _ h => h) (Or.inl ⟨by kernel_rfl, fun w' hs => us_load 34 (run_loadVar_row w' (B0 + 1) 34 34 s.cells (0, 0) _ hs.2 hu35 rfl (cc_info.trans HSS.out)) rfl rfl⟩) hHeld rfl ?_
                      simp only [Act.put, List.setIfInBounds_toArray, List.set_cons_zero, List.set_cons_succ]
                      refine one_ (i := 2) (N := some 51) (lN 29 3) rfl rfl (by kernel_rfl) (by decide) (fun K hK => ?_)
                      refine goes_ Tryd.func22 (by kernel_rfl) rfl #[.bool sh, .agg s.cells] (by kernel_rfl) rfl rfl (by first | rfl | (simp only [List.map_toArray, List.map_cons, List.map_nil]; rfl)) ?_
                      with_reducible refine (use_strict.own sh s _).mono ?_
                      rintro e wn2 ⟨rfl, hb⟩
                      refine ⟨.bool (strictB sh s), rfl, ?_⟩
                      have n0_ := Aside0.mk (HBF.out.trans (hb.mono HBF.out.size)); have n1_ := Aside0.mk (blk_below HA.out hb); have n2_ := Aside0.mk (blk_below HS.out hb); clear HBF HA HS hb; have HBF := n0_; have HA := n1_; have HS := n2_; clear n0_ n1_ n2_; clear hHeld
                      refine hK.out _ _ ⟨HA.out, HS.out⟩ (fun hHeld => ?_)
                      clear hK K
                      rw [QS.out]
                      simp only [Act.put, List.setIfInBounds_toArray, List.set_cons_zero, List.set_cons_succ]
                      refine pure_ (i := 3) (N := some 52) (v := .bool true) (lN 29 4) rfl rfl (by kernel_rfl) (fun _ _ _ h => h) (Or.inl ⟨by kernel_rfl, fun w' => by kernel_rfl⟩) rfl ?_
                      simp only [Act.put, List.setIfInBounds_toArray, List.set_cons_zero, List.set_cons_succ]
                      refine pure_ (i := 4) (N := some 53) (v := .bool true) (lN 29 5) rfl rfl (by kernel_rfl) (fun _ _ _ h => h) (Or.inl ⟨by kernel_rfl, fun w' => by kernel_rfl⟩) rfl ?_
                      simp only [Act.put, List.setIfInBounds_toArray, List.set_cons_zero, List.set_cons_succ]
                      refine pure_ (i := 5) (N := some 54) (v := .pointer (some ⟨B0, 17, none⟩)) (lN 29 6) rfl rfl (by kernel_rfl) (fun _ _ _ h => h) (Or.inl ⟨by kernel_rfl, fun w' => by kernel_rfl⟩) rfl ?_
                      simp only [Act.put, List.setIfInBounds_toArray, List.set_cons_zero, List.set_cons_succ]
                      refine pure_ (i := 6) (N := some 55) (v := .pointer (some ⟨B0, 17, none⟩)) (lN 29 7) rfl rfl (by kernel_rfl) (fun _ _ _ h => h) (Or.inl ⟨by kernel_rfl, fun w' => by kernel_rfl⟩) rfl ?_
                      simp only [Act.put, List.setIfInBounds_toArray, List.set_cons_zero, List.set_cons_succ]
                      refine take_ (i := 7) (N := some 56) (v := .bool false) (lN 29 8) rfl rfl (by kernel_rfl) (fun _ _ _ h => h) (Or.inl ⟨by kernel_rfl, fun w' hs => us_load 4 (us_bool ((blk_cell hs.1 17).trans (show a.cells[17]? = some (.bool false) by show some (Value.bool a.h3) = _; rw [Qh3.out]))) rfl rfl⟩) hHeld rfl ?_
                      simp only [Act.put, List.setIfInBounds_toArray, List.set_cons_zero, List.set_cons_succ]
                      refine pure_ (i := 8) (N := some 57) (v := .bool true) (lN 29 9) rfl rfl (by kernel_rfl) (fun _ _ _ h => h) (Or.inl ⟨by kernel_rfl, fun w' => by kernel_rfl⟩) rfl ?_
                      simp only [Act.put, List.setIfInBounds_toArray, List.set_cons_zero, List.set_cons_succ]
                      refine pure_ (i := 9) (N := some 58) (v := .bool true) (lN 29 10) rfl rfl (by kernel_rfl) (fun _ _ _ h => h) (Or.inl ⟨by kernel_rfl, fun w' => by kernel_rfl⟩) rfl ?_
                      simp only [Act.put, List.setIfInBounds_toArray, List.set_cons_zero, List.set_cons_succ]
                      refine pure_ (i := 10) (N := some 59) (v := .bool true) (lN 29 11) rfl rfl (by kernel_rfl) (fun _ _ _ h => h) (Or.inl ⟨by kernel_rfl, fun w' => by kernel_rfl⟩) rfl ?_
                      simp only [Act.put, List.setIfInBounds_toArray, List.set_cons_zero, List.set_cons_succ]
                      refine pure_ (i := 11) (N := some 60) (v := .pointer (some ⟨B0, 10, none⟩)) (lN 29 12) rfl rfl (by kernel_rfl) (fun _ _ _ h => h) (Or.inl ⟨by kernel_rfl, fun w' => by kernel_rfl⟩) rfl ?_
                      simp only [Act.put, List.setIfInBounds_toArray, List.set_cons_zero, List.set_cons_succ]
                      refine take_ (i := 12) (N := some 61) (v := .bool false) (lN 29 13) rfl rfl (by kernel_rfl) (fun _ _ _ h => h) (Or.inl ⟨by kernel_rfl, fun w' hs => us_load 4 (us_bool ((blk_cell hs.1 10).trans (show a.cells[10]? = some (.bool false) by show some (Value.bool a.b10) = _; rw [Qb10.out]))) rfl rfl⟩) hHeld rfl ?_
                      simp only [Act.put, List.setIfInBounds_toArray, List.set_cons_zero, List.set_cons_succ]
                      refine pure_ (i := 13) (N := some 62) (v := .bool false) (lN 29 14) rfl rfl (by kernel_rfl) (fun _ _ _ h => h) (Or.inl ⟨by kernel_rfl, fun w' => by kernel_rfl⟩) rfl ?_
                      simp only [Act.put, List.setIfInBounds_toArray, List.set_cons_zero, List.set_cons_succ]
                      refine pure_ (i := 14) (N := some 63) (v := .pointer (some ⟨B0, 15, none⟩)) (lN 29 15) rfl rfl (by kernel_rfl) (fun _ _ _ h => h) (Or.inl ⟨by kernel_rfl, fun w' => by kernel_rfl⟩) rfl ?_
                      simp only [Act.put, List.setIfInBounds_toArray, List.set_cons_zero, List.set_cons_succ]
                      refine pure_ (i := 15) (N := some 64) (v := .pointer (some ⟨B0, 15, none⟩)) (lN 29 16) rfl rfl (by kernel_rfl) (fun _ _ _ h => h) (Or.inl ⟨by kernel_rfl, fun w' => by kernel_rfl⟩) rfl ?_
                      simp only [Act.put, List.setIfInBounds_toArray, List.set_cons_zero, List.set_cons_succ]
                      refine take_ (i := 16) (N := some 65) (v := .bool true) (lN 29 17) rfl rfl (by kernel_rfl) (fun _ _ _ h => h) (Or.inl ⟨by kernel_rfl, fun w' hs => us_load 4 (us_bool ((blk_cell hs.1 15).trans (show a.cells[15]? = some (.bool true) by show some (Value.bool a.h2) = _; rw [Qh2.out]))) rfl rfl⟩) hHeld rfl ?_
                      simp only [Act.put, List.setIfInBounds_toArray, List.set_cons_zero, List.set_cons_succ]
                      refine pure_ (i := 17) (N := some 66) (v := .bool true) (lN 29 18) rfl rfl (by kernel_rfl) (fun _ _ _ h => h) (Or.inl ⟨by kernel_rfl, fun w' => by kernel_rfl⟩) rfl ?_
                      simp only [Act.put, List.setIfInBounds_toArray, List.set_cons_zero, List.set_cons_succ]
                      refine pure_ (i := 18) (N := some 67) (v := .pointer (some ⟨B0, 15, none⟩)) (lN 29 19) rfl rfl (by kernel_rfl) (fun _ _ _ h => h) (Or.inl ⟨by kernel_rfl, fun w' => by kernel_rfl⟩) rfl ?_
                      simp only [Act.put, List.setIfInBounds_toArray, List.set_cons_zero, List.set_cons_succ]
                      refine pure_ (i := 19) (N := some 68) (v := .pointer (some ⟨B0, 16, none⟩)) (lN 29 20) rfl rfl (by kernel_rfl) (fun _ _ _ h => h) (Or.inl ⟨by kernel_rfl, fun w' => by kernel_rfl⟩) rfl ?_
                      simp only [Act.put, List.setIfInBounds_toArray, List.set_cons_zero, List.set_cons_succ]
                      refine take_ (i := 20) (N := some 69) (v := .int .i64 a.n2) (lN 29 21) rfl rfl (by kernel_rfl) (fun _ _ _ h => h) (Or.inl ⟨by kernel_rfl, fun w' hs => us_load 3 (us_int ((blk_cell hs.1 16).trans (show a.cells[16]? = some (.int .i64 a.n2) from rfl))) rfl rfl⟩) hHeld rfl ?_
                      simp only [Act.put, List.setIfInBounds_toArray, List.set_cons_zero, List.set_cons_succ]
                      refine pure_ (i := 21) (N := some 70) (v := .int .i64 o) (lN 29 22) rfl rfl (by kernel_rfl) (fun _ _ _ h => h) (Or.inl ⟨by kernel_rfl, fun w' => by kernel_rfl⟩) rfl ?_
                      simp only [Act.put, List.setIfInBounds_toArray, List.set_cons_zero, List.set_cons_succ]
                      refine pure_ (i := 22) (N := some 71) (v := .int .i64 lf) (lN 29 23) rfl rfl (by kernel_rfl) (fun _ _ _ h => h) (Or.inl ⟨by kernel_rfl, fun w' => by kernel_rfl⟩) rfl ?_
                      simp only [Act.put, List.setIfInBounds_toArray, List.set_cons_zero, List.set_cons_succ]
                      refine one_ (i := 23) (N := some 72) (lN 29 24) rfl rfl (by kernel_rfl) (by decide) (fun K hK => ?_)
                      refine goes_ Tryd.func13 (by kernel_rfl) rfl #[.int .i64 o, .int .i64 lf] (by kernel_rfl) rfl rfl (by first | rfl | (simp only [List.map_toArray, List.map_cons, List.map_nil]; rfl)) ?_
                      with_reducible refine (bits_Sub.calls o lf _ _ (Sub_is o lf)).mono ?_
                      rintro e wn23 ⟨rfl, hb⟩
                      refine ⟨.int .i64 (subI o lf), rfl, ?_⟩
                      have n0_ := Aside0.mk (HBF.out.trans (hb.mono HBF.out.size)); have n1_ := Aside0.mk (blk_below HA.out hb); have n2_ := Aside0.mk (blk_below HS.out hb); clear HBF HA HS hb; have HBF := n0_; have HA := n1_; have HS := n2_; clear n0_ n1_ n2_; clear hHeld
                      refine hK.out _ _ ⟨HA.out, HS.out⟩ (fun hHeld => ?_)
                      clear hK K
                      simp only [Act.put, List.setIfInBounds_toArray, List.set_cons_zero, List.set_cons_succ]
                      refine pure_ (i := 24) (N := some 73) (v := .bool false) (lN 29 25) rfl rfl (by kernel_rfl) (fun _ _ _ h => h) (Or.inl ⟨by kernel_rfl, fun w' => us_geq QG.out rfl rfl rfl⟩) rfl ?_
                      simp only [Act.put, List.setIfInBounds_toArray, List.set_cons_zero, List.set_cons_succ]
                      refine pure_ (i := 25) (N := some 74) (v := .bool false) (lN 29 26) rfl rfl (by kernel_rfl) (fun _ _ _ h => h) (Or.inl ⟨by kernel_rfl, fun w' => by kernel_rfl⟩) rfl ?_
                      simp only [Act.put, List.setIfInBounds_toArray, List.set_cons_zero, List.set_cons_succ]
                      refine pure_ (i := 26) (N := some 75) (v := .bool false) (lN 29 27) rfl rfl (by kernel_rfl) (fun _ _ _ h => h) (Or.inl ⟨by kernel_rfl, fun w' => by kernel_rfl⟩) rfl ?_
                      simp only [Act.put, List.setIfInBounds_toArray, List.set_cons_zero, List.set_cons_succ]
                      refine pure_ (i := 27) (N := some 76) (v := .bool false) (lN 29 28) rfl rfl (by kernel_rfl) (fun _ _ _ h => h) (Or.inl ⟨by kernel_rfl, fun w' => by kernel_rfl⟩) rfl ?_
                      simp only [Act.put, List.setIfInBounds_toArray, List.set_cons_zero, List.set_cons_succ]
                      refine pure_ (i := 28) (N := some 48) (v := .bool false) (lN 29 29) rfl rfl (by kernel_rfl) (fun _ _ _ h => h) (Or.inl ⟨by kernel_rfl, fun w' => by kernel_rfl⟩) rfl ?_
                      simp only [Act.put, List.setIfInBounds_toArray, List.set_cons_zero, List.set_cons_succ]
                      refine done_ (by kernel_rfl) ?_
                      go_wp2
                      go_ret
                      exact ⟨by rw [HO.out, HL.out, show decideI sh a s o lf = 3 by unfold decideI; rw [if_neg (by rw [Q1.out]; decide), if_neg (by rw [Q2.out]; decide), if_neg (fun h => by have := QZ.out; have := h.2; omega), if_neg (by have := Q4.out; omega), if_neg (by rw [QS.out]; decide), if_neg (by rw [Qh3.out]; decide), if_neg (by rw [Qb10.out]; decide), if_pos Qh2.out, if_neg (by have := QN.out; omega)]]; rfl, HBF.out⟩
def use_Decide.f (k : Nat) (a0 : Bool) (l1 : List S29) (l2 : List S29) (a3 : Int) (a4 : Int) : Option (Int) := (use_wish.R k l1).bind fun a => (use_control.R k l2).bind fun s => some (decideI a0 a s (clipI a3) (clipI a4))
theorem use_Decide.mono : ∀ a0 a1 a2 a3 a4 k, LeO (use_Decide.f k a0 a1 a2 a3 a4) (use_Decide.f (k + 1) a0 a1 a2 a3 a4) := by
  intro a0 a1 a2 a3 a4 k
  unfold use_Decide.f
  exact LeO.bind (use_wish.monoR k _) fun _ => LeO.bind (use_control.monoR k _) fun _ => LeO.refl _
theorem use_Decide.calls (k : Nat) (a0 : Bool) (A1 : Option Addr) (c1 : Nat) (l1 : List S29) (A2 : Option Addr) (c2 : Nat) (l2 : List S29) (a3 : Int) (a4 : Int) (r : Int) (w : World) (hr1 : Kd.C k29 w A1 l1.length l1) (hc1 : l1.length ≤ c1) (hr2 : Kd.C k29 w A2 l2.length l2) (hc2 : l2.length ≤ c2) (h : use_Decide.f k a0 l1 l2 a3 a4 = some r) :
    Calls Tryd.prog 8 #[.bool a0, .slice A1 l1.length c1, .slice A2 l2.length c2, .int .i64 a3, .int .i64 a4] w fun e w' => e = .returned (.int .i64 r) ∧ Below w.heap.size w w' := by
  unfold use_Decide.f at h
  obtain ⟨a, h1, h⟩ := Option.bind_eq_some_iff.1 h
  obtain ⟨s, h2, h⟩ := Option.bind_eq_some_iff.1 h
  obtain rfl := Option.some.inj h
  exact use_Decide.own k a0 A1 c1 l1 A2 c2 l2 a3 a4 a s w hr1 hc1 hr2 hc2 h1 h2


end Go.Proofs.YtlkbnbkabpodoaaDoor.U
