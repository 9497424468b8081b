-- Written by a program of this session's (wip/xprint.py), out of the seat's translation.
import Derived.Test.YtlkbnbkabpodoaaDoorU0
import Derived.Test.YtlkbnbkabpodoaaDoorU2
import Derived.Test.YtlkbnbkabpodoaaDoorU3
import Derived.Test.YtlkbnbkabpodoaaDoorU4
import Derived.Test.YtlkbnbkabpodoaaDoorU5
import Derived.Test.YtlkbnbkabpodoaaDoorU7
namespace Go.Proofs.YtlkbnbkabpodoaaDoor.U
open Go.RowKit Go.Proofs.YtlkbnbkabpodoaaDoorW.PrintWords Go.Proofs.YtlkbnbkabpodoaaDoorW.PrintLast Go.Proofs.YtlkbnbkabpodoaaDoorW.PrintMore
attribute [local go_sem] max2_int min2_int max_two min_two max_three min_three max_four min_four   -- for this text's walks alone
set_option linter.unusedVariables false
set_option linter.unusedSimpArgs false

/-! ### sprref19_Decide: function 15 -/
def sprref19_control.R (k : Nat) (l : List S29) : Option Own.Ctl := (sprref12_All.f k l (⟨#[67, 97, 99, 104, 101, 45, 67, 111, 110, 116, 114, 111, 108]⟩ : ByteArray)).bind fun v => rpR k v
theorem sprref19_control.monoR (k : Nat) (l : List S29) : LeO (sprref19_control.R k l) (sprref19_control.R (k + 1) l) := LeO.bind (sprref12_All.mono _ _ k) fun _ => rpR_mono k _
theorem sprref19_control.below {B g : Nat} {w0 w : World} (hb : Below B w0 w) (hg : B ≤ g) (cs : Array Value) : Below B w0 (w.setRow g cs) :=
  ⟨hb.os, hb.tape, hb.output, by rw [setRow_size]; exact hb.size, fun k hk => (setRow_other w g k cs (by omega)).trans (hb.block k hk)⟩
set_option maxHeartbeats 1000000 in
set_option maxRecDepth 100000 in
theorem sprref19_control.own (k : Nat) (A : Option Addr) (c0 : Nat) (l : List S29) (c : Own.Ctl) (w : World) (hr0 : Kd.C k29 w A l.length l) (hc0 : l.length ≤ c0) (h : sprref19_control.R k l = some c) :
    Calls Tryd.prog 31 #[.slice A l.length c0] w fun e w' => e = .returned (.agg c.cells) ∧ Below w.heap.size w w' := by
  unfold sprref19_control.R at h
  obtain ⟨v, h1, h2⟩ := Option.bind_eq_some_iff.1 h
  have hu35 := Tryd.underlying50
  have HR0 := Aside0.mk hr0
  have HC0 := Aside0.mk hc0
  have H1 := Aside0.mk h1
  have H2 := Aside0.mk h2
  obtain ⟨wa, hwa⟩ : ∃ wa, wa = w.alloc (.cells #[.bool false, .bool false, .bool false, .bool false, .bool false, .bool false, .bool false, .bool false, .bool false, .bool false, .bool false, .bool false, .int .i64 0, .bool false, .int .i64 0, .bool false, .int .i64 0, .bool false, .int .i64 0, .bool false, .int .i64 0] 50) := ⟨_, rfl⟩
  have HB : Aside0 (Below w.heap.size w wa) := ⟨by rw [hwa]; exact (Below.refl _ w).alloc (Nat.le_refl _) _⟩
  have HZ : Aside0 (wa.heap[w.heap.size]? = some (.cells Own.Ctl.zero.cells 50 (0, 0))) := ⟨by rw [hwa]; exact blk_new w _⟩
  have HSZ : Aside0 (some 21 = some c.cells.size) := ⟨rfl⟩
  clear hr0 hc0 h h1 h2
  go_enter Tryd.func31, Tryd.ntmps31
  go_wp2_with (first | (go_at_call 44; rw [← hwa]; (with_reducible refine (sprref12_All.calls k A c0 l _ v _ (Kd.C_below HR0.out HB.out) HC0.out H1.out).mono ?_); rintro e w1 ⟨v1, rfl, hR, hb⟩; obtain ⟨A1, c1, rfl, hc1, hC1⟩ := Kd.R_reads hR; have n0_ := Aside0.mk (HB.out.trans (hb.mono HB.out.size)); have n1_ := Aside0.mk (blk_below HZ.out hb); have HC1 := Aside0.mk hC1; clear HB HZ hb hR hC1 hwa; have HB := n0_; have HZ := n1_; clear n0_ n1_) | (go_at_call 46; (with_reducible refine (rpR_calls k A1 c1 v c _ HC1.out hc1 H2.out).mono ?_); rintro e w2 ⟨rfl, hb⟩; have n0_ := Aside0.mk (HB.out.trans (hb.mono HB.out.size)); have n1_ := Aside0.mk (blk_below HZ.out hb); clear HB HZ hb; have HB := n0_; have HZ := n1_; clear n0_ n1_) | ((with_reducible refine gate_store (t := 50) rfl ?_); refine wpList_store_row rfl 50 _ _ rfl w.heap.size c.cells rfl rfl 50 Own.Ctl.zero.cells HZ.out (rinfo.trans HSZ.out) rfl (by simp [Own.Ctl.cells, Value.oneCell']) ?_))
  refine bodyPost_ret (results_cell_row rfl _ _ w.heap.size 50 c.cells (0, 0) _ rfl (setRow_heap _ _ _ _ _ _ HZ.out) hu35 rfl (rinfo.trans HSZ.out)) rfl ?_
  exact ⟨rfl, sprref19_control.below HB.out (Nat.le_refl _) _⟩
def sprref19_wish.go : List ByteArray → Bool → Option Bool
  | [], b => some b
  | p :: t, b => (sprref12_Lower.f p).bind fun nm => if (nm.toList == ([110, 111, 45, 99, 97, 99, 104, 101] : List UInt8)) = true then sprref19_wish.go t true else sprref19_wish.go t b
def sprref19_wish.R (k : Nat) (l : List S29) : Option Own.Ctl := (sprref19_control.R k l).bind fun c => (sprref19_has.f k l (⟨#[67, 97, 99, 104, 101, 45, 67, 111, 110, 116, 114, 111, 108]⟩ : ByteArray)).bind fun h => if h = true then some c else
  (sprref12_All.f k l (⟨#[80, 114, 97, 103, 109, 97]⟩ : ByteArray)).bind fun p => (sprref12_Split.f k p).bind fun ps => (sprref19_wish.go ps c.b1).bind fun b => some { c with b1 := b }
theorem sprref19_wish.monoR (k : Nat) (l : List S29) : LeO (sprref19_wish.R k l) (sprref19_wish.R (k + 1) l) := by
  unfold sprref19_wish.R
  refine LeO.bind (sprref19_control.monoR k _) fun c => LeO.bind (sprref19_has.mono _ _ k) fun h => ?_
  by_cases e : h = true
  · rw [if_pos e, if_pos e]; exact LeO.refl _
  · rw [if_neg e, if_neg e]; exact LeO.bind (sprref12_All.mono _ _ k) fun _ => LeO.bind (sprref12_Split.mono _ k) fun _ => LeO.refl _
set_option maxHeartbeats 1000000 in
set_option maxRecDepth 100000 in
theorem sprref19_wish.yes (k : Nat) (A : Option Addr) (c0 : Nat) (l : List S29) (c : Own.Ctl) (w : World) (hr0 : Kd.C k29 w A l.length l) (hc0 : l.length ≤ c0) (h1 : sprref19_control.R k l = some c) (h2 : sprref19_has.f k l (⟨#[67, 97, 99, 104, 101, 45, 67, 111, 110, 116, 114, 111, 108]⟩ : ByteArray) = some true) :
    Calls Tryd.prog 30 #[.slice A l.length c0] w fun e w' => e = .returned (.agg c.cells) ∧ Below w.heap.size w w' := by
  have hu35 := Tryd.underlying50
  have HR0 := Aside0.mk hr0
  have HC0 := Aside0.mk hc0
  have H1 := Aside0.mk h1
  have H2 := Aside0.mk h2
  obtain ⟨wa, hwa⟩ : ∃ wa, wa = w.alloc (.cells #[.bool false, .bool false, .bool false, .bool false, .bool false, .bool false, .bool false, .bool false, .bool false, .bool false, .bool false, .bool false, .int .i64 0, .bool false, .int .i64 0, .bool false, .int .i64 0, .bool false, .int .i64 0, .bool false, .int .i64 0] 50) := ⟨_, rfl⟩
  have HB : Aside0 (Below w.heap.size w wa) := ⟨by rw [hwa]; exact (Below.refl _ w).alloc (Nat.le_refl _) _⟩
  have HZ : Aside0 (wa.heap[w.heap.size]? = some (.cells Own.Ctl.zero.cells 50 (0, 0))) := ⟨by rw [hwa]; exact blk_new w _⟩
  have HSZ : Aside0 (some 21 = some c.cells.size) := ⟨rfl⟩
  clear hr0 hc0 h1 h2
  go_enter Tryd.func30, Tryd.ntmps30
  go_wp2_with (first | (go_at_call 31; rw [← hwa]; (with_reducible refine (sprref19_control.own k A c0 l c _ (Kd.C_below HR0.out HB.out) HC0.out H1.out).mono ?_); rintro e w2 ⟨rfl, hb⟩; have n0_ := Aside0.mk (HB.out.trans (hb.mono HB.out.size)); have n1_ := Aside0.mk (blk_below HZ.out hb); clear HB HZ hb hwa; have HB := n0_; have HZ := n1_; clear n0_ n1_) | ((with_reducible refine gate_store (t := 50) (p := 3) rfl ?_); refine wpList_store_row rfl 50 _ _ rfl w2.heap.size c.cells rfl rfl 50 Own.Ctl.zero.cells (blk_new w2 _) (rinfo.trans HSZ.out) rfl (rone _) ?_; obtain ⟨w3, hw3⟩ : ∃ w3, w3 = (w2.alloc (.cells #[.bool false, .bool false, .bool false, .bool false, .bool false, .bool false, .bool false, .bool false, .bool false, .bool false, .bool false, .bool false, .int .i64 0, .bool false, .int .i64 0, .bool false, .int .i64 0, .bool false, .int .i64 0, .bool false, .int .i64 0] 50)).setRow w2.heap.size c.cells := ⟨_, rfl⟩; have HA3 : Aside0 (w3.heap[w2.heap.size]? = some (.cells c.cells 50 (0, 0))) := (⟨by rw [hw3]; exact setRow_heap _ _ _ _ _ _ (blk_new w2 _)⟩); have HLT := Aside0.mk (blk_lt HZ.out); have HZ3 : Aside0 (w3.heap[w.heap.size]? = some (.cells Own.Ctl.zero.cells 50 (0, 0))) := (⟨by rw [hw3]; exact (setRow_other _ _ _ _ (by have := HLT.out; omega)).trans (blk_alloc HZ.out _)⟩); have HB3 : Aside0 (Below w.heap.size w w3) := (⟨by rw [hw3]; exact sprref19_control.below (HB.out.alloc HB.out.size _) HB.out.size _⟩); rw [← hw3]; clear hw3 HB HZ) | (go_at_call 42; (with_reducible refine (sprref19_has.calls k A c0 l _ true _ (Kd.C_below HR0.out HB3.out) HC0.out H2.out).mono ?_); rintro e w4 ⟨rfl, hb⟩; have HB := Aside0.mk (HB3.out.trans (hb.mono HB3.out.size)); have HZ := Aside0.mk (blk_below HZ3.out hb); have HA4 := Aside0.mk (blk_below HA3.out hb); clear HB3 HZ3 HA3 hb) | ((with_reducible refine gate_dst (N := 10) rfl ?_); refine wpList_load_row rfl 50 (.tmp 3) rfl w2.heap.size rfl 50 c.cells (0, 0) _ HA4.out hu35 rfl (rinfo.trans HSZ.out) ?_) | ((with_reducible refine gate_store (t := 50) (p := 2) rfl ?_); refine wpList_store_row rfl 50 _ _ rfl w.heap.size c.cells rfl rfl 50 Own.Ctl.zero.cells HZ.out (rinfo.trans HSZ.out) rfl (rone _) ?_))
  refine bodyPost_ret (results_cell_row rfl _ _ w.heap.size 50 c.cells (0, 0) _ rfl (setRow_heap _ _ _ _ _ _ HZ.out) hu35 rfl (rinfo.trans HSZ.out)) rfl ?_
  exact ⟨rfl, sprref19_control.below HB.out (Nat.le_refl _) _⟩
theorem rwish_b1 (c : Own.Ctl) (b : Bool) : c.cells.setIfInBounds 1 (.bool b) = ({ c with b1 := b } : Own.Ctl).cells := by simp [Own.Ctl.cells]
set_option maxHeartbeats 1000000 in
set_option maxRecDepth 100000 in
theorem sprref19_wish.no (k : Nat) (A : Option Addr) (c0 : Nat) (l : List S29) (p ps : List ByteArray) (c : Own.Ctl) (bb : Bool) (w : World) (hr0 : Kd.C k29 w A l.length l) (hc0 : l.length ≤ c0) (h1 : sprref19_control.R k l = some c) (h2 : sprref19_has.f k l (⟨#[67, 97, 99, 104, 101, 45, 67, 111, 110, 116, 114, 111, 108]⟩ : ByteArray) = some false) (h3 : sprref12_All.f k l (⟨#[80, 114, 97, 103, 109, 97]⟩ : ByteArray) = some p) (h4 : sprref12_Split.f k p = some ps) (h5 : sprref19_wish.go ps c.b1 = some bb) :
    Calls Tryd.prog 30 #[.slice A l.length c0] w fun e w' => e = .returned (.agg ({ c with b1 := bb } : Own.Ctl).cells) ∧ Below w.heap.size w w' := by
  have hu35 := Tryd.underlying50
  have HR0 := Aside0.mk hr0
  have HC0 := Aside0.mk hc0
  have H1 := Aside0.mk h1
  have H2 := Aside0.mk h2
  obtain ⟨wa, hwa⟩ : ∃ wa, wa = w.alloc (.cells #[.bool false, .bool false, .bool false, .bool false, .bool false, .bool false, .bool false, .bool false, .bool false, .bool false, .bool false, .bool false, .int .i64 0, .bool false, .int .i64 0, .bool false, .int .i64 0, .bool false, .int .i64 0, .bool false, .int .i64 0] 50) := ⟨_, rfl⟩
  have HB : Aside0 (Below w.heap.size w wa) := ⟨by rw [hwa]; exact (Below.refl _ w).alloc (Nat.le_refl _) _⟩
  have HZ : Aside0 (wa.heap[w.heap.size]? = some (.cells Own.Ctl.zero.cells 50 (0, 0))) := ⟨by rw [hwa]; exact blk_new w _⟩
  have HSZ : Aside0 (some 21 = some c.cells.size) := ⟨rfl⟩
  have H3 := Aside0.mk h3
  have H4 := Aside0.mk h4
  have H5 := Aside0.mk h5
  clear hr0 hc0 h1 h2 h3 h4 h5
  go_enter Tryd.func30, Tryd.ntmps30
  go_wp2_with (first | (go_at_call 31; rw [← hwa]; (with_reducible refine (sprref19_control.own k A c0 l c _ (Kd.C_below HR0.out HB.out) HC0.out H1.out).mono ?_); rintro e w2 ⟨rfl, hb⟩; have n0_ := Aside0.mk (HB.out.trans (hb.mono HB.out.size)); have n1_ := Aside0.mk (blk_below HZ.out hb); clear HB HZ hb hwa; have HB := n0_; have HZ := n1_; clear n0_ n1_) | ((with_reducible refine gate_store (t := 50) (p := 3) rfl ?_); refine wpList_store_row rfl 50 _ _ rfl w2.heap.size c.cells rfl rfl 50 Own.Ctl.zero.cells (blk_new w2 _) (rinfo.trans HSZ.out) rfl (rone _) ?_; obtain ⟨w3, hw3⟩ : ∃ w3, w3 = (w2.alloc (.cells #[.bool false, .bool false, .bool false, .bool false, .bool false, .bool false, .bool false, .bool false, .bool false, .bool false, .bool false, .bool false, .int .i64 0, .bool false, .int .i64 0, .bool false, .int .i64 0, .bool false, .int .i64 0, .bool false, .int .i64 0] 50)).setRow w2.heap.size c.cells := ⟨_, rfl⟩; have HA3 : Aside0 (w3.heap[w2.heap.size]? = some (.cells c.cells 50 (0, 0))) := (⟨by rw [hw3]; exact setRow_heap _ _ _ _ _ _ (blk_new w2 _)⟩); have HLT := Aside0.mk (blk_lt HZ.out); have HZ3 : Aside0 (w3.heap[w.heap.size]? = some (.cells Own.Ctl.zero.cells 50 (0, 0))) := (⟨by rw [hw3]; exact (setRow_other _ _ _ _ (by have := HLT.out; omega)).trans (blk_alloc HZ.out _)⟩); have HB3 : Aside0 (Below w.heap.size w w3) := (⟨by rw [hw3]; exact sprref19_control.below (HB.out.alloc HB.out.size _) HB.out.size _⟩); rw [← hw3]; clear hw3 HB HZ) | (go_at_call 42; (with_reducible refine (sprref19_has.calls k A c0 l _ false _ (Kd.C_below HR0.out HB3.out) HC0.out H2.out).mono ?_); rintro e w4 ⟨rfl, hb⟩; have HB := Aside0.mk (HB3.out.trans (hb.mono HB3.out.size)); have HZ := Aside0.mk (blk_below HZ3.out hb); have HA4 := Aside0.mk (blk_below HA3.out hb); clear HB3 HZ3 HA3 hb) | (go_at_call 44; (with_reducible refine (sprref12_All.calls k A c0 l _ p _ (Kd.C_below HR0.out HB.out) HC0.out H3.out).mono ?_); rintro e w5 ⟨v5, rfl, hR, hb⟩; obtain ⟨A5, c5, rfl, hc5, hC5⟩ := Kd.R_reads hR; have n2_ := Aside0.mk (blk_below HA4.out hb); have n0_ := Aside0.mk (HB.out.trans (hb.mono HB.out.size)); have n1_ := Aside0.mk (blk_below HZ.out hb); have HC5 := Aside0.mk hC5; clear HB HZ HA4 hb hR hC5; have HB := n0_; have HZ := n1_; have HA4 := n2_; clear n0_ n1_ n2_) | (go_at_call 43; (with_reducible refine (sprref12_Split.calls k A5 c5 p ps _ HC5.out hc5 H4.out).mono ?_); rintro e w6 ⟨v6, rfl, hR, hb⟩; obtain ⟨A6, c6, rfl, hc6, hC6⟩ := Kd.R_reads hR; have n2_ := Aside0.mk (blk_below HA4.out hb); have n0_ := Aside0.mk (HB.out.trans (hb.mono HB.out.size)); have n1_ := Aside0.mk (blk_below HZ.out hb); have HC6 := Aside0.mk hC6; have HNE : Aside0 (some w2.heap.size ≠ (Value.slice A6 ps.length c6).ownBlock) := ⟨Kd.R_ne hR n2_.out (by decide)⟩; clear HB HZ HA4 hb hR hC6; have HB6 := n0_; have HZ6 := n1_; have HA6 := n2_; clear n0_ n1_ n2_))
  have hlen : ps.length ≤ 9223372036854775807 := HC6.out.2.1
  have HBL := Aside0.mk (show w.heap.size ≤ w2.heap.size by have := HLT.out; omega)
  go_loopg [5] ps.length (fun gg i wr => ∃ n : Nat, i = .int .i64 n ∧ n ≤ ps.length ∧ ps.length - n ≤ gg ∧ ∃ b : Bool, Aside0 (sprref19_wish.go (ps.drop n) b = some bb) ∧ Aside0 (RpSt w w6 w2.heap.size { c with b1 := b } wr))
  case atStart => exact ⟨0, rfl, by omega, by omega, c.b1, ⟨H5.out⟩, ⟨⟨HA6.out, HB6.out, KeepBut.refl _ _ _⟩⟩⟩
  case round =>
    obtain ⟨n, rfl, hn, hgg, b, hst, hS0⟩ := hrel
    by_cases hlt : n < ps.length
    · have hx : ps[n]? = some ps[n] := List.getElem?_eq_getElem hlt
      have q1 : decide ((n : Int) < (ps.length : Int)) = true := decide_eq_true (by omega)
      obtain ⟨ad, rfl, hx0⟩ := cc_at_str HC6.out n _ hx
      replace hx0 : wr.cell? (ad.add n) = some (.string ps[n]) := by
        have hl := World.block_lt_of_cell? w6 _ hx0
        have hne : (ad.add n).block ≠ w2.heap.size := fun e => HNE.out (by rw [← e]; simp [Value.ownBlock, Addr.add]; split <;> rfl)
        have := hS0.out.keep.2 (ad.add n).block hl hne (by simp)
        rw [← hx0]; unfold World.cell?; rw [this]
      have p5 := eq_true (show (0 : Int) ≤ (n : Int) by omega)
      have q5 := eq_true (show (n : Int) < (ps.length : Int) by omega)
      have hd : ps.drop n = ps[n] :: ps.drop (n + 1) := List.drop_eq_getElem_cons hlt
      have hst' := hst.out
      rw [hd] at hst'
      clear hd hx hst
      generalize ps[n] = x at *
      obtain ⟨nm, e1, hst'⟩ := Option.bind_eq_some_iff.1 (show (sprref12_Lower.f x).bind (fun nm => if (nm.toList == ([110, 111, 45, 99, 97, 99, 104, 101] : List UInt8)) = true then sprref19_wish.go (ps.drop (n + 1)) true else sprref19_wish.go (ps.drop (n + 1)) b) = some bb from hst')
      have k1 := fun w => sprref12_Lower.calls x nm w e1
      clear e1
      by_cases hq : (nm.toList == ([110, 111, 45, 99, 97, 99, 104, 101] : List UInt8)) = true
      · rw [if_pos hq] at hst'
        have HN := Aside0.mk hst'
        clear hst'
        go_wp2_with (go_at_call 45; (with_reducible refine (k1 _).mono ?_); rintro e w7 ⟨rfl, hb⟩; have S7 := Aside0.mk (hS0.out.next hb); have f7 := blk_frozen S7.out.at_ 1; have c7 := (blk_cell S7.out.at_ 1).trans (show ({ c with b1 := b } : Own.Ctl).cells[1]? = some (.bool b) from rfl); clear hb k1)
        go_roundg (ps.length - (n + 1))
        case measure => omega
        case rel => exact ⟨n + 1, rfl, by omega, by omega, true, HN, ⟨⟨by rw [blk_set S7.out.at_ 1, rwish_b1], S7.out.below.setCell HBL.out _, S7.out.keep.set_ _ _⟩⟩⟩
      · rw [if_neg hq] at hst'
        have HN := Aside0.mk hst'
        replace hq := Bool.eq_false_iff.2 hq
        clear hst'
        go_wp2_with (go_at_call 45; (with_reducible refine (k1 _).mono ?_); rintro e w7 ⟨rfl, hb⟩; have S7 := Aside0.mk (hS0.out.next hb); clear hb k1)
        go_roundg (ps.length - (n + 1))
        case measure => omega
        case rel => exact ⟨n + 1, rfl, by omega, by omega, b, HN, S7⟩
    · have q1 : decide ((n : Int) < (ps.length : Int)) = false := decide_eq_false (by omega)
      have hd : ps.drop n = [] := List.drop_eq_nil_of_le (by omega)
      have hst' := hst.out
      rw [hd] at hst'
      obtain rfl : b = bb := Option.some.inj hst'
      have HZR : Aside0 (wr.heap[w.heap.size]? = some (.cells Own.Ctl.zero.cells 50 (0, 0))) := ⟨(hS0.out.keep.2 w.heap.size (blk_lt HZ6.out) (by have := HLT.out; omega) (by simp)).trans HZ6.out⟩
      have hrs : some 21 = some ({ c with b1 := b } : Own.Ctl).cells.size := rfl
      have hone : ({ c with b1 := b } : Own.Ctl).cells.all (·.oneCell') = true := by simp [Own.Ctl.cells, Value.oneCell']
      have hat := hS0.out.at_
      have HBW := Aside0.mk hS0.out.below
      obtain ⟨fc, hfc⟩ : ∃ fc, fc = ({ c with b1 := b } : Own.Ctl).cells := ⟨_, rfl⟩
      rw [← hfc] at hat hrs hone
      have HAT := Aside0.mk hat
      have HRS := Aside0.mk hrs
      have HFC := Aside0.mk hfc
      clear hfc hat hrs hd hst' hst hS0
      go_wp2_with (first | ((with_reducible refine gate_dst (N := 27) rfl ?_); refine wpList_load_row rfl 50 (.tmp 3) rfl w2.heap.size rfl 50 fc (0, 0) _ HAT.out hu35 rfl (rinfo.trans HRS.out) ?_) | ((with_reducible refine gate_store (t := 50) (p := 2) rfl ?_); refine wpList_store_row rfl 50 _ _ rfl w.heap.size fc rfl rfl 50 Own.Ctl.zero.cells HZR.out (rinfo.trans HRS.out) (by rw [← Option.some.inj HRS.out]; rfl) hone ?_))
      refine bodyPost_ret (results_cell_row rfl _ _ w.heap.size 50 fc (0, 0) _ rfl (setRow_heap _ _ _ _ _ _ HZR.out) hu35 rfl (rinfo.trans HRS.out)) rfl ?_
      exact ⟨by rw [HFC.out], sprref19_control.below HBW.out (Nat.le_refl _) _⟩
theorem sprref19_wish.own (k : Nat) (A : Option Addr) (c0 : Nat) (l : List S29) (c : Own.Ctl) (w : World) (hr0 : Kd.C k29 w A l.length l) (hc0 : l.length ≤ c0) (h : sprref19_wish.R k l = some c) :
    Calls Tryd.prog 30 #[.slice A l.length c0] w fun e w' => e = .returned (.agg c.cells) ∧ Below w.heap.size w w' := by
  unfold sprref19_wish.R at h
  obtain ⟨c1, h1, h⟩ := Option.bind_eq_some_iff.1 h
  obtain ⟨hh, h2, h⟩ := Option.bind_eq_some_iff.1 h
  cases hh with
  | true =>
    obtain rfl : c1 = c := Option.some.inj h
    exact sprref19_wish.yes k A c0 l c1 w hr0 hc0 h1 h2
  | false =>
    obtain ⟨p, h3, h⟩ := Option.bind_eq_some_iff.1 (show (sprref12_All.f k l (⟨#[80, 114, 97, 103, 109, 97]⟩ : ByteArray)).bind (fun p => (sprref12_Split.f k p).bind fun ps => (sprref19_wish.go ps c1.b1).bind fun b => some ({ c1 with b1 := b } : Own.Ctl)) = some c from h)
    obtain ⟨ps, h4, h⟩ := Option.bind_eq_some_iff.1 h
    obtain ⟨b, h5, h⟩ := Option.bind_eq_some_iff.1 h
    obtain rfl := Option.some.inj h
    exact sprref19_wish.no k A c0 l p ps c1 b w hr0 hc0 h1 h2 h3 h4 h5
set_option maxHeartbeats 1000000 in
set_option maxRecDepth 100000 in
theorem sprref19_strict.own (sh : Bool) (c : Own.Ctl) (w : World) :
    Calls Tryd.prog 34 #[.bool sh, .agg c.cells] w fun e w' => e = .returned (.bool (strictB sh c)) ∧ Below w.heap.size w w' := by
  have hu35 := Tryd.underlying50
  have hu33 := Tryd.underlying48
  obtain ⟨cs, hcs⟩ : ∃ cs, cs = c.cells := ⟨_, rfl⟩
  have hz := blk_new w (.cells cs 50)
  have hb : Below w.heap.size w (w.alloc (.cells cs 50)) := (Below.refl _ w).alloc (Nat.le_refl _) _
  have c4 := (blk_cell hz 4).trans (show cs[4]? = some (.bool c.b4) by rw [hcs]; rfl)
  have c5 := (blk_cell hz 5).trans (show cs[5]? = some (.bool c.b5) by rw [hcs]; rfl)
  have c13 := (blk_cell hz 13).trans (show cs[13]? = some (.bool c.h1) by rw [hcs]; rfl)
  rw [← hcs]
  have HBB := Aside0.mk hb
  unfold strictB
  clear hz hb hcs
  generalize c.b4 = x4 at *
  generalize c.b5 = x5 at *
  generalize c.h1 = x13 at *
  cases x4 <;> cases sh <;> cases x5 <;> cases x13
  all_goals
    go_enter Tryd.func34, Tryd.ntmps34
    go_wp2
    go_ret
    exact ⟨rfl, HBB.out⟩
theorem ClipR_is (n : Int) : sprref1_Clip.f n = some (clipI n) := rfl
theorem AddR_is (a b : Int) : sprref1_Add.f a b = some (addI a b) := by
  unfold sprref1_Add.f
  rw [ClipR_is, ClipR_is]
  have h1 := clipI_rng a
  have h2 := clipI_rng b
  simp only [Option.bind_some]
  rw [show wrap64 (clipI a + clipI b) = clipI a + clipI b by unfold wrap64; omega]
  congr 1
  unfold addI
  generalize clipI a = x at *
  generalize clipI b = y at *
  unfold clipI mx mn
  (repeat' split) <;> omega
theorem SubR_is (a b : Int) : sprref1_Sub.f a b = some (subI a b) := by
  unfold sprref1_Sub.f
  rw [ClipR_is, ClipR_is]
  have h1 := clipI_rng a
  have h2 := clipI_rng b
  simp only [Option.bind_some]
  rw [show wrap64 (clipI a - clipI b) = clipI a - clipI b by unfold wrap64; omega]
  congr 1
  unfold subI
  generalize clipI a = x at *
  generalize clipI b = y at *
  unfold clipI mx mn
  (repeat' split) <;> omega
set_option maxHeartbeats 4000000 in
set_option maxRecDepth 100000 in
theorem sprref19_Decide.own (k : Nat) (sh : Bool) (A1 : Option Addr) (c1 : Nat) (l1 : List S29) (A2 : Option Addr) (c2 : Nat) (l2 : List S29) (old life : Int) (a s : Own.Ctl) (w : World) (hr1 : Kd.C k29 w A1 l1.length l1) (hc1 : l1.length ≤ c1) (hr2 : Kd.C k29 w A2 l2.length l2) (hc2 : l2.length ≤ c2) (ha : sprref19_wish.R k l1 = some a) (hs : sprref19_control.R k l2 = some s) :
    Calls Tryd.prog 15 #[.bool sh, .slice A1 l1.length c1, .slice A2 l2.length c2, .int .i64 old, .int .i64 life] w fun e w' => e = .returned (.int .i64 (decideI sh a s (clipI old) (clipI life))) ∧ Below w.heap.size w w' := by
  have hu35 := Tryd.underlying50
  have hu33 := Tryd.underlying48
  have HR1 := Aside0.mk hr1
  have HR2 := Aside0.mk hr2
  have HC1 := Aside0.mk hc1
  have HC2 := Aside0.mk hc2
  have HWA := Aside0.mk ha
  have HWS := Aside0.mk hs
  have HBF := Aside0.mk (Below.refl w.heap.size w)
  have HSA : Aside0 (some 21 = some a.cells.size) := ⟨rfl⟩
  have HSS : Aside0 (some 21 = some s.cells.size) := ⟨rfl⟩
  clear hr1 hr2 hc1 hc2 ha hs
  have T0 := Aside0.mk trivial
  go_enter Tryd.func15, Tryd.ntmps15
  go_upto_region 3 with (first | (go_at_call 30; (with_reducible refine (sprref19_wish.own k A1 c1 l1 a _ (Kd.C_below HR1.out HBF.out) HC1.out HWA.out).mono ?_); rintro e w3 ⟨rfl, hb⟩; have n0_ := Aside0.mk (HBF.out.trans (hb.mono HBF.out.size)); clear HBF hb; have HBF := n0_; clear n0_) | (go_at_call 31; (with_reducible refine (sprref19_control.own k A2 c2 l2 s _ (Kd.C_below HR2.out HBF.out) HC2.out HWS.out).mono ?_); rintro e w4 ⟨rfl, hb⟩; have n0_ := Aside0.mk (HBF.out.trans (hb.mono HBF.out.size)); clear HBF hb; have HBF := n0_; clear n0_) | ((with_reducible refine gate_store (t := 50) (p := 11) rfl ?_); refine wpList_store_row rfl 50 _ _ rfl w4.heap.size a.cells rfl rfl 50 Own.Ctl.zero.cells (blk_alloc (blk_new w4 _) _) (rinfo.trans HSA.out) rfl (by simp [Own.Ctl.cells, Value.oneCell']) ?_) | ((with_reducible refine gate_store (t := 50) (p := 12) rfl ?_); obtain ⟨wy, hwy⟩ : ∃ wy, wy = (w4.alloc (.cells #[.bool false, .bool false, .bool false, .bool false, .bool false, .bool false, .bool false, .bool false, .bool false, .bool false, .bool false, .bool false, .int .i64 0, .bool false, .int .i64 0, .bool false, .int .i64 0, .bool false, .int .i64 0, .bool false, .int .i64 0] 50)).alloc (.cells #[.bool false, .bool false, .bool false, .bool false, .bool false, .bool false, .bool false, .bool false, .bool false, .bool false, .bool false, .bool false, .int .i64 0, .bool false, .int .i64 0, .bool false, .int .i64 0, .bool false, .int .i64 0, .bool false, .int .i64 0] 50) := ⟨_, rfl⟩; have hby := (by rw [hwy]; exact (HBF.out.alloc HBF.out.size _).alloc (by rw [World.size_alloc]; have := HBF.out.size; omega) _ : Below w.heap.size w wy); have hy0 := (by rw [hwy]; exact blk_alloc (blk_new w4 _) _ : wy.heap[w4.heap.size]? = some (.cells Own.Ctl.zero.cells 50 (0, 0))); have hy1 := (by rw [hwy]; exact heap_alloc2_new w4 _ _ : wy.heap[w4.heap.size + 1]? = some (.cells Own.Ctl.zero.cells 50 (0, 0))); obtain ⟨wv, hwv⟩ : ∃ wv, wv = wy.setRow w4.heap.size a.cells := ⟨_, rfl⟩; have hv1 := (by rw [hwv]; exact (setRow_other _ _ _ _ (by omega)).trans hy1 : wv.heap[w4.heap.size + 1]? = some (.cells Own.Ctl.zero.cells 50 (0, 0))); have hv0 := (by rw [hwv]; exact setRow_heap _ _ _ _ _ _ hy0 : wv.heap[w4.heap.size]? = some (.cells a.cells 50 (0, 0))); rw [← hwy, ← hwv]; refine wpList_store_row rfl 50 _ _ rfl (w4.heap.size + 1) s.cells rfl rfl 50 Own.Ctl.zero.cells hv1 (rinfo.trans HSS.out) rfl (by simp [Own.Ctl.cells, Value.oneCell']) ?_; obtain ⟨wf, hwf⟩ : ∃ wf, wf = wv.setRow (w4.heap.size + 1) s.cells := ⟨_, rfl⟩; have HA := Aside0.mk (by rw [hwf]; exact (setRow_other _ _ _ _ (by omega)).trans hv0 : wf.heap[w4.heap.size]? = some (.cells a.cells 50 (0, 0))); have HS := Aside0.mk (by rw [hwf]; exact setRow_heap _ _ _ _ _ _ hv1 : wf.heap[w4.heap.size + 1]? = some (.cells s.cells 50 (0, 0))); have n0_ := Aside0.mk (by rw [hwf, hwv]; exact sprref19_control.below (sprref19_control.below hby HBF.out.size _) (by have := HBF.out.size; omega) _ : Below w.heap.size w wf); rw [← hwf]; clear hwf hwv hwy hy0 hy1 hv0 hv1 hby HBF; have HBF := n0_; clear n0_; generalize w4.heap.size = B0 at *) | (clear T0; go_at_call 32; (with_reducible refine (sprref1_Clip.calls old _ _ (ClipR_is old)).mono ?_); rintro e w1 ⟨rfl, hb⟩; have n0_ := Aside0.mk (HBF.out.trans (hb.mono HBF.out.size)); have n1_ := Aside0.mk (blk_below HA.out hb); have n2_ := Aside0.mk (blk_below HS.out hb); clear HBF HA HS hb; have HBF := n0_; have HA := n1_; have HS := n2_; clear n0_ n1_ n2_; have T1 := Aside0.mk trivial) | (clear T1; go_at_call 32; (with_reducible refine (sprref1_Clip.calls life _ _ (ClipR_is life)).mono ?_); rintro e w2 ⟨rfl, hb⟩; have n0_ := Aside0.mk (HBF.out.trans (hb.mono HBF.out.size)); have n1_ := Aside0.mk (blk_below HA.out hb); have n2_ := Aside0.mk (blk_below HS.out hb); clear HBF HA HS hb; have HBF := n0_; have HA := n1_; have HS := n2_; clear n0_ n1_ n2_; have T2 := Aside0.mk trivial))
  generalize ho : clipI old = o at *
  generalize hl : clipI life = lf at *
  have HO := Aside0.mk ho
  have HL := Aside0.mk hl
  clear ho hl
  cases q1 : a.b1 with
  | true =>
    have ca1 := (blk_cell HA.out 1).trans (show a.cells[1]? = some (.bool true) by show some (Value.bool a.b1) = _; rw [q1])
    have Q1 := Aside0.mk q1
    clear q1
    go_wp2
    go_ret
    exact ⟨by rw [HO.out, HL.out, show decideI sh a s o lf = 3 by unfold decideI; rw [if_pos Q1.out]]; rfl, HBF.out⟩
  | false =>
    have ca1 := (blk_cell HA.out 1).trans (show a.cells[1]? = some (.bool false) by show some (Value.bool a.b1) = _; rw [q1])
    have Q1 := Aside0.mk q1
    clear q1
    cases q2 : s.b1 with
    | true =>
      have cs1 := (blk_cell HS.out 1).trans (show s.cells[1]? = some (.bool true) by show some (Value.bool s.b1) = _; rw [q2])
      have Q2 := Aside0.mk q2
      clear q2
      go_wp2
      go_ret
      exact ⟨by rw [HO.out, HL.out, show decideI sh a s o lf = 3 by unfold decideI; rw [if_neg (by rw [Q1.out]; decide), if_pos Q2.out]]; rfl, HBF.out⟩
    | false =>
      have cs1 := (blk_cell HS.out 1).trans (show s.cells[1]? = some (.bool false) by show some (Value.bool s.b1) = _; rw [q2])
      have Q2 := Aside0.mk q2
      clear q2
      cases q3 : a.h0 with
      | false =>
        have ca11 := (blk_cell HA.out 11).trans (show a.cells[11]? = some (.bool false) by show some (Value.bool a.h0) = _; rw [q3])
        have Q3 := Aside0.mk q3
        clear q3
        have ca18 := (blk_cell HA.out 18).trans (show a.cells[18]? = some (.int .i64 a.n3) from rfl)
        by_cases q4 : addI o a.n3 < lf
        · have q5 : decide (addI o a.n3 < lf) = true := decide_eq_true q4
          have Q4 := Aside0.mk q4
          clear q4
          go_wp2_with (go_at_call 33; (with_reducible refine (sprref1_Add.calls o a.n3 _ _ (AddR_is o a.n3)).mono ?_); rintro e w5 ⟨rfl, hb⟩; have n0_ := Aside0.mk (HBF.out.trans (hb.mono HBF.out.size)); have n1_ := Aside0.mk (blk_below HA.out hb); have n2_ := Aside0.mk (blk_below HS.out hb); clear HBF HA HS hb; have HBF := n0_; have HA := n1_; have HS := n2_; clear n0_ n1_ n2_)
          go_ret
          exact ⟨by rw [HO.out, HL.out, show decideI sh a s o lf = 1 by unfold decideI; rw [if_neg (by rw [Q1.out]; decide), if_neg (by rw [Q2.out]; decide), if_neg (by rw [Q3.out]; simp), if_pos (by have := Q4.out; omega)]]; rfl, HBF.out⟩
        · have q5 : decide (addI o a.n3 < lf) = false := decide_eq_false q4
          have Q4 := Aside0.mk q4
          clear q4
          go_upto_region 7 with (go_at_call 33; (with_reducible refine (sprref1_Add.calls o a.n3 _ _ (AddR_is o a.n3)).mono ?_); rintro e w5 ⟨rfl, hb⟩; have n0_ := Aside0.mk (HBF.out.trans (hb.mono HBF.out.size)); have n1_ := Aside0.mk (blk_below HA.out hb); have n2_ := Aside0.mk (blk_below HS.out hb); clear HBF HA HS hb; have HBF := n0_; have HA := n1_; have HS := n2_; clear n0_ n1_ n2_)
          clear ca1 cs1 ca18 q5
          try clear ca11
          try clear ca12
          try clear q3
          cases qs : strictB sh s with
          | true =>
            have QS := Aside0.mk qs
            clear qs
            refine start_ (n := 29) (S := fun w' => w'.heap[B0]? = some (.cells a.cells 50 (0, 0)) ∧ w'.heap[B0 + 1]? = some (.cells s.cells 50 (0, 0))) (ds := []) (lN 29 0) (by kernel_rfl) rfl rfl ⟨blk_drew HA.out, blk_drew HS.out⟩ (fun hHeld => ?_)
            have n0_ := Aside0.mk (blk_drew HA.out); have n1_ := Aside0.mk (blk_drew HS.out); have n2_ := Aside0.mk (below_drew1 HBF.out); clear HA HS HBF; have HA := n0_; have HS := n1_; have HBF := n2_; clear n0_ n1_ n2_
            generalize World.drew _ = wd at HA HS HBF hHeld ⊢
            refine pure_ (i := 0) (N := some 49) (v := .bool sh) (lN 29 1) rfl rfl (by kernel_rfl) (fun _ _ _ h => h) (Or.inl ⟨by kernel_rfl, fun w' => by kernel_rfl⟩) rfl ?_
            simp only [Act.put, List.setIfInBounds_toArray, List.set_cons_zero, List.set_cons_succ]
            refine take_ (i := 1) (N := some 50) (v := .agg s.cells) (lN 29 2) rfl rfl (by kernel_rfl) (fun _ _ _ h => h) (Or.inl ⟨by kernel_rfl, fun w' hs => us_load 50 (run_loadVar_row w' (B0 + 1) 50 50 s.cells (0, 0) _ hs.2 hu35 rfl (rinfo.trans HSS.out)) rfl rfl⟩) hHeld rfl ?_
            simp only [Act.put, List.setIfInBounds_toArray, List.set_cons_zero, List.set_cons_succ]
            refine one_ (i := 2) (N := some 51) (lN 29 3) rfl rfl (by kernel_rfl) (by decide) (fun K hK => ?_)
            refine goes_ Tryd.func34 (by kernel_rfl) rfl #[.bool sh, .agg s.cells] (by kernel_rfl) rfl rfl (by first | rfl | (simp only [List.map_toArray, List.map_cons, List.map_nil]; rfl)) ?_
            with_reducible refine (sprref19_strict.own sh s _).mono ?_
            rintro e wn2 ⟨rfl, hb⟩
            refine ⟨.bool (strictB sh s), rfl, ?_⟩
            have n0_ := Aside0.mk (HBF.out.trans (hb.mono HBF.out.size)); have n1_ := Aside0.mk (blk_below HA.out hb); have n2_ := Aside0.mk (blk_below HS.out hb); clear HBF HA HS hb; have HBF := n0_; have HA := n1_; have HS := n2_; clear n0_ n1_ n2_; clear hHeld
            refine hK.out _ _ ⟨HA.out, HS.out⟩ (fun hHeld => ?_)
            clear hK K
            rw [QS.out]
            simp only [Act.put, List.setIfInBounds_toArray, List.set_cons_zero, List.set_cons_succ]
            refine pure_ (i := 3) (N := some 52) (v := .bool false) (lN 29 4) rfl rfl (by kernel_rfl) (fun _ _ _ h => h) (Or.inl ⟨by kernel_rfl, fun w' => by kernel_rfl⟩) rfl ?_
            simp only [Act.put, List.setIfInBounds_toArray, List.set_cons_zero, List.set_cons_succ]
            refine pure_ (i := 4) (N := some 53) (v := .bool false) (lN 29 5) rfl rfl (by kernel_rfl) (fun _ _ _ h => h) (Or.inl ⟨by kernel_rfl, fun w' => by kernel_rfl⟩) rfl ?_
            simp only [Act.put, List.setIfInBounds_toArray, List.set_cons_zero, List.set_cons_succ]
            refine pure_ (i := 5) (N := some 54) (v := undef) (lN 29 6) rfl rfl (by kernel_rfl) (fun _ _ _ h => h) (Or.inr ⟨by kernel_rfl, rfl⟩) rfl ?_
            simp only [Act.put, List.setIfInBounds_toArray, List.set_cons_zero, List.set_cons_succ]
            refine pure_ (i := 6) (N := some 55) (v := undef) (lN 29 7) rfl rfl (by kernel_rfl) (fun _ _ _ h => h) (Or.inr ⟨by kernel_rfl, rfl⟩) rfl ?_
            simp only [Act.put, List.setIfInBounds_toArray, List.set_cons_zero, List.set_cons_succ]
            refine pure_ (i := 7) (N := some 56) (v := undef) (lN 29 8) rfl rfl (by kernel_rfl) (fun _ _ _ h => h) (Or.inr ⟨by kernel_rfl, rfl⟩) rfl ?_
            simp only [Act.put, List.setIfInBounds_toArray, List.set_cons_zero, List.set_cons_succ]
            refine pure_ (i := 8) (N := some 57) (v := undef) (lN 29 9) rfl rfl (by kernel_rfl) (fun _ _ _ h => h) (Or.inr ⟨by kernel_rfl, rfl⟩) rfl ?_
            simp only [Act.put, List.setIfInBounds_toArray, List.set_cons_zero, List.set_cons_succ]
            refine pure_ (i := 9) (N := some 58) (v := .bool false) (lN 29 10) rfl rfl (by kernel_rfl) (fun _ _ _ h => h) (Or.inl ⟨by kernel_rfl, fun w' => by kernel_rfl⟩) rfl ?_
            simp only [Act.put, List.setIfInBounds_toArray, List.set_cons_zero, List.set_cons_succ]
            refine pure_ (i := 10) (N := some 59) (v := .bool false) (lN 29 11) rfl rfl (by kernel_rfl) (fun _ _ _ h => h) (Or.inl ⟨by kernel_rfl, fun w' => by kernel_rfl⟩) rfl ?_
            simp only [Act.put, List.setIfInBounds_toArray, List.set_cons_zero, List.set_cons_succ]
            refine pure_ (i := 11) (N := some 60) (v := undef) (lN 29 12) rfl rfl (by kernel_rfl) (fun _ _ _ h => h) (Or.inr ⟨by kernel_rfl, rfl⟩) rfl ?_
            simp only [Act.put, List.setIfInBounds_toArray, List.set_cons_zero, List.set_cons_succ]
            refine pure_ (i := 12) (N := some 61) (v := undef) (lN 29 13) rfl rfl (by kernel_rfl) (fun _ _ _ h => h) (Or.inr ⟨by kernel_rfl, rfl⟩) rfl ?_
            simp only [Act.put, List.setIfInBounds_toArray, List.set_cons_zero, List.set_cons_succ]
            refine pure_ (i := 13) (N := some 62) (v := undef) (lN 29 14) rfl rfl (by kernel_rfl) (fun _ _ _ h => h) (Or.inr ⟨by kernel_rfl, rfl⟩) rfl ?_
            simp only [Act.put, List.setIfInBounds_toArray, List.set_cons_zero, List.set_cons_succ]
            refine pure_ (i := 14) (N := some 63) (v := undef) (lN 29 15) rfl rfl (by kernel_rfl) (fun _ _ _ h => h) (Or.inr ⟨by kernel_rfl, rfl⟩) rfl ?_
            simp only [Act.put, List.setIfInBounds_toArray, List.set_cons_zero, List.set_cons_succ]
            refine pure_ (i := 15) (N := some 64) (v := undef) (lN 29 16) rfl rfl (by kernel_rfl) (fun _ _ _ h => h) (Or.inr ⟨by kernel_rfl, rfl⟩) rfl ?_
            simp only [Act.put, List.setIfInBounds_toArray, List.set_cons_zero, List.set_cons_succ]
            refine pure_ (i := 16) (N := some 65) (v := undef) (lN 29 17) rfl rfl (by kernel_rfl) (fun _ _ _ h => h) (Or.inr ⟨by kernel_rfl, rfl⟩) rfl ?_
            simp only [Act.put, List.setIfInBounds_toArray, List.set_cons_zero, List.set_cons_succ]
            refine pure_ (i := 17) (N := some 66) (v := undef) (lN 29 18) rfl rfl (by kernel_rfl) (fun _ _ _ h => h) (Or.inr ⟨by kernel_rfl, rfl⟩) rfl ?_
            simp only [Act.put, List.setIfInBounds_toArray, List.set_cons_zero, List.set_cons_succ]
            refine pure_ (i := 18) (N := some 67) (v := undef) (lN 29 19) rfl rfl (by kernel_rfl) (fun _ _ _ h => h) (Or.inr ⟨by kernel_rfl, rfl⟩) rfl ?_
            simp only [Act.put, List.setIfInBounds_toArray, List.set_cons_zero, List.set_cons_succ]
            refine pure_ (i := 19) (N := some 68) (v := undef) (lN 29 20) rfl rfl (by kernel_rfl) (fun _ _ _ h => h) (Or.inr ⟨by kernel_rfl, rfl⟩) rfl ?_
            simp only [Act.put, List.setIfInBounds_toArray, List.set_cons_zero, List.set_cons_succ]
            refine pure_ (i := 20) (N := some 69) (v := undef) (lN 29 21) rfl rfl (by kernel_rfl) (fun _ _ _ h => h) (Or.inr ⟨by kernel_rfl, rfl⟩) rfl ?_
            simp only [Act.put, List.setIfInBounds_toArray, List.set_cons_zero, List.set_cons_succ]
            refine pure_ (i := 21) (N := some 70) (v := undef) (lN 29 22) rfl rfl (by kernel_rfl) (fun _ _ _ h => h) (Or.inr ⟨by kernel_rfl, rfl⟩) rfl ?_
            simp only [Act.put, List.setIfInBounds_toArray, List.set_cons_zero, List.set_cons_succ]
            refine pure_ (i := 22) (N := some 71) (v := undef) (lN 29 23) rfl rfl (by kernel_rfl) (fun _ _ _ h => h) (Or.inr ⟨by kernel_rfl, rfl⟩) rfl ?_
            simp only [Act.put, List.setIfInBounds_toArray, List.set_cons_zero, List.set_cons_succ]
            refine pure_ (i := 23) (N := some 72) (v := undef) (lN 29 24) rfl rfl (by kernel_rfl) (fun _ _ _ h => h) (Or.inr ⟨by kernel_rfl, rfl⟩) rfl ?_
            simp only [Act.put, List.setIfInBounds_toArray, List.set_cons_zero, List.set_cons_succ]
            refine pure_ (i := 24) (N := some 73) (v := undef) (lN 29 25) rfl rfl (by kernel_rfl) (fun _ _ _ h => h) (Or.inr ⟨by kernel_rfl, rfl⟩) rfl ?_
            simp only [Act.put, List.setIfInBounds_toArray, List.set_cons_zero, List.set_cons_succ]
            refine pure_ (i := 25) (N := some 74) (v := undef) (lN 29 26) rfl rfl (by kernel_rfl) (fun _ _ _ h => h) (Or.inr ⟨by kernel_rfl, rfl⟩) rfl ?_
            simp only [Act.put, List.setIfInBounds_toArray, List.set_cons_zero, List.set_cons_succ]
            refine pure_ (i := 26) (N := some 75) (v := undef) (lN 29 27) rfl rfl (by kernel_rfl) (fun _ _ _ h => h) (Or.inr ⟨by kernel_rfl, rfl⟩) rfl ?_
            simp only [Act.put, List.setIfInBounds_toArray, List.set_cons_zero, List.set_cons_succ]
            refine pure_ (i := 27) (N := some 76) (v := .bool false) (lN 29 28) rfl rfl (by kernel_rfl) (fun _ _ _ h => h) (Or.inl ⟨by kernel_rfl, fun w' => by kernel_rfl⟩) rfl ?_
            simp only [Act.put, List.setIfInBounds_toArray, List.set_cons_zero, List.set_cons_succ]
            refine pure_ (i := 28) (N := some 48) (v := .bool false) (lN 29 29) rfl rfl (by kernel_rfl) (fun _ _ _ h => h) (Or.inl ⟨by kernel_rfl, fun w' => by kernel_rfl⟩) rfl ?_
            simp only [Act.put, List.setIfInBounds_toArray, List.set_cons_zero, List.set_cons_succ]
            refine done_ (by kernel_rfl) ?_
            go_wp2
            go_ret
            exact ⟨by rw [HO.out, HL.out, show decideI sh a s o lf = 3 by unfold decideI; rw [if_neg (by rw [Q1.out]; decide), if_neg (by rw [Q2.out]; decide), if_neg (by rw [Q3.out]; simp), if_neg (by have := Q4.out; omega), if_pos QS.out]]; rfl, HBF.out⟩
          | false =>
            have QS := Aside0.mk qs
            clear qs
            cases qh : a.h3 with
            | true =>
              have Qh3 := Aside0.mk qh
              clear qh
              refine start_ (n := 29) (S := fun w' => w'.heap[B0]? = some (.cells a.cells 50 (0, 0)) ∧ w'.heap[B0 + 1]? = some (.cells s.cells 50 (0, 0))) (ds := []) (lN 29 0) (by kernel_rfl) rfl rfl ⟨blk_drew HA.out, blk_drew HS.out⟩ (fun hHeld => ?_)
              have n0_ := Aside0.mk (blk_drew HA.out); have n1_ := Aside0.mk (blk_drew HS.out); have n2_ := Aside0.mk (below_drew1 HBF.out); clear HA HS HBF; have HA := n0_; have HS := n1_; have HBF := n2_; clear n0_ n1_ n2_
              generalize World.drew _ = wd at HA HS HBF hHeld ⊢
              refine pure_ (i := 0) (N := some 49) (v := .bool sh) (lN 29 1) rfl rfl (by kernel_rfl) (fun _ _ _ h => h) (Or.inl ⟨by kernel_rfl, fun w' => by kernel_rfl⟩) rfl ?_
              simp only [Act.put, List.setIfInBounds_toArray, List.set_cons_zero, List.set_cons_succ]
              refine take_ (i := 1) (N := some 50) (v := .agg s.cells) (lN 29 2) rfl rfl (by kernel_rfl) (fun _ _ _ h => h) (Or.inl ⟨by kernel_rfl, fun w' hs => us_load 50 (run_loadVar_row w' (B0 + 1) 50 50 s.cells (0, 0) _ hs.2 hu35 rfl (rinfo.trans HSS.out)) rfl rfl⟩) hHeld rfl ?_
              simp only [Act.put, List.setIfInBounds_toArray, List.set_cons_zero, List.set_cons_succ]
              refine one_ (i := 2) (N := some 51) (lN 29 3) rfl rfl (by kernel_rfl) (by decide) (fun K hK => ?_)
              refine goes_ Tryd.func34 (by kernel_rfl) rfl #[.bool sh, .agg s.cells] (by kernel_rfl) rfl rfl (by first | rfl | (simp only [List.map_toArray, List.map_cons, List.map_nil]; rfl)) ?_
              with_reducible refine (sprref19_strict.own sh s _).mono ?_
              rintro e wn2 ⟨rfl, hb⟩
              refine ⟨.bool (strictB sh s), rfl, ?_⟩
              have n0_ := Aside0.mk (HBF.out.trans (hb.mono HBF.out.size)); have n1_ := Aside0.mk (blk_below HA.out hb); have n2_ := Aside0.mk (blk_below HS.out hb); clear HBF HA HS hb; have HBF := n0_; have HA := n1_; have HS := n2_; clear n0_ n1_ n2_; clear hHeld
              refine hK.out _ _ ⟨HA.out, HS.out⟩ (fun hHeld => ?_)
              clear hK K
              rw [QS.out]
              simp only [Act.put, List.setIfInBounds_toArray, List.set_cons_zero, List.set_cons_succ]
              refine pure_ (i := 3) (N := some 52) (v := .bool true) (lN 29 4) rfl rfl (by kernel_rfl) (fun _ _ _ h => h) (Or.inl ⟨by kernel_rfl, fun w' => by kernel_rfl⟩) rfl ?_
              simp only [Act.put, List.setIfInBounds_toArray, List.set_cons_zero, List.set_cons_succ]
              refine pure_ (i := 4) (N := some 53) (v := .bool true) (lN 29 5) rfl rfl (by kernel_rfl) (fun _ _ _ h => h) (Or.inl ⟨by kernel_rfl, fun w' => by kernel_rfl⟩) rfl ?_
              simp only [Act.put, List.setIfInBounds_toArray, List.set_cons_zero, List.set_cons_succ]
              refine pure_ (i := 5) (N := some 54) (v := .pointer (some ⟨B0, 17, none⟩)) (lN 29 6) rfl rfl (by kernel_rfl) (fun _ _ _ h => h) (Or.inl ⟨by kernel_rfl, fun w' => by kernel_rfl⟩) rfl ?_
              simp only [Act.put, List.setIfInBounds_toArray, List.set_cons_zero, List.set_cons_succ]
              refine pure_ (i := 6) (N := some 55) (v := .pointer (some ⟨B0, 17, none⟩)) (lN 29 7) rfl rfl (by kernel_rfl) (fun _ _ _ h => h) (Or.inl ⟨by kernel_rfl, fun w' => by kernel_rfl⟩) rfl ?_
              simp only [Act.put, List.setIfInBounds_toArray, List.set_cons_zero, List.set_cons_succ]
              refine take_ (i := 7) (N := some 56) (v := .bool true) (lN 29 8) rfl rfl (by kernel_rfl) (fun _ _ _ h => h) (Or.inl ⟨by kernel_rfl, fun w' hs => us_load 4 (us_bool ((blk_cell hs.1 17).trans (show a.cells[17]? = some (.bool true) by show some (Value.bool a.h3) = _; rw [Qh3.out]))) rfl rfl⟩) hHeld rfl ?_
              simp only [Act.put, List.setIfInBounds_toArray, List.set_cons_zero, List.set_cons_succ]
              refine pure_ (i := 8) (N := some 57) (v := .bool false) (lN 29 9) rfl rfl (by kernel_rfl) (fun _ _ _ h => h) (Or.inl ⟨by kernel_rfl, fun w' => by kernel_rfl⟩) rfl ?_
              simp only [Act.put, List.setIfInBounds_toArray, List.set_cons_zero, List.set_cons_succ]
              refine pure_ (i := 9) (N := some 58) (v := .bool false) (lN 29 10) rfl rfl (by kernel_rfl) (fun _ _ _ h => h) (Or.inl ⟨by kernel_rfl, fun w' => by kernel_rfl⟩) rfl ?_
              simp only [Act.put, List.setIfInBounds_toArray, List.set_cons_zero, List.set_cons_succ]
              refine pure_ (i := 10) (N := some 59) (v := .bool false) (lN 29 11) rfl rfl (by kernel_rfl) (fun _ _ _ h => h) (Or.inl ⟨by kernel_rfl, fun w' => by kernel_rfl⟩) rfl ?_
              simp only [Act.put, List.setIfInBounds_toArray, List.set_cons_zero, List.set_cons_succ]
              refine pure_ (i := 11) (N := some 60) (v := undef) (lN 29 12) rfl rfl (by kernel_rfl) (fun _ _ _ h => h) (Or.inr ⟨by kernel_rfl, rfl⟩) rfl ?_
              simp only [Act.put, List.setIfInBounds_toArray, List.set_cons_zero, List.set_cons_succ]
              refine pure_ (i := 12) (N := some 61) (v := undef) (lN 29 13) rfl rfl (by kernel_rfl) (fun _ _ _ h => h) (Or.inr ⟨by kernel_rfl, rfl⟩) rfl ?_
              simp only [Act.put, List.setIfInBounds_toArray, List.set_cons_zero, List.set_cons_succ]
              refine pure_ (i := 13) (N := some 62) (v := undef) (lN 29 14) rfl rfl (by kernel_rfl) (fun _ _ _ h => h) (Or.inr ⟨by kernel_rfl, rfl⟩) rfl ?_
              simp only [Act.put, List.setIfInBounds_toArray, List.set_cons_zero, List.set_cons_succ]
              refine pure_ (i := 14) (N := some 63) (v := undef) (lN 29 15) rfl rfl (by kernel_rfl) (fun _ _ _ h => h) (Or.inr ⟨by kernel_rfl, rfl⟩) rfl ?_
              simp only [Act.put, List.setIfInBounds_toArray, List.set_cons_zero, List.set_cons_succ]
              refine pure_ (i := 15) (N := some 64) (v := undef) (lN 29 16) rfl rfl (by kernel_rfl) (fun _ _ _ h => h) (Or.inr ⟨by kernel_rfl, rfl⟩) rfl ?_
              simp only [Act.put, List.setIfInBounds_toArray, List.set_cons_zero, List.set_cons_succ]
              refine pure_ (i := 16) (N := some 65) (v := undef) (lN 29 17) rfl rfl (by kernel_rfl) (fun _ _ _ h => h) (Or.inr ⟨by kernel_rfl, rfl⟩) rfl ?_
              simp only [Act.put, List.setIfInBounds_toArray, List.set_cons_zero, List.set_cons_succ]
              refine pure_ (i := 17) (N := some 66) (v := undef) (lN 29 18) rfl rfl (by kernel_rfl) (fun _ _ _ h => h) (Or.inr ⟨by kernel_rfl, rfl⟩) rfl ?_
              simp only [Act.put, List.setIfInBounds_toArray, List.set_cons_zero, List.set_cons_succ]
              refine pure_ (i := 18) (N := some 67) (v := undef) (lN 29 19) rfl rfl (by kernel_rfl) (fun _ _ _ h => h) (Or.inr ⟨by kernel_rfl, rfl⟩) rfl ?_
              simp only [Act.put, List.setIfInBounds_toArray, List.set_cons_zero, List.set_cons_succ]
              refine pure_ (i := 19) (N := some 68) (v := undef) (lN 29 20) rfl rfl (by kernel_rfl) (fun _ _ _ h => h) (Or.inr ⟨by kernel_rfl, rfl⟩) rfl ?_
              simp only [Act.put, List.setIfInBounds_toArray, List.set_cons_zero, List.set_cons_succ]
              refine pure_ (i := 20) (N := some 69) (v := undef) (lN 29 21) rfl rfl (by kernel_rfl) (fun _ _ _ h => h) (Or.inr ⟨by kernel_rfl, rfl⟩) rfl ?_
              simp only [Act.put, List.setIfInBounds_toArray, List.set_cons_zero, List.set_cons_succ]
              refine pure_ (i := 21) (N := some 70) (v := undef) (lN 29 22) rfl rfl (by kernel_rfl) (fun _ _ _ h => h) (Or.inr ⟨by kernel_rfl, rfl⟩) rfl ?_
              simp only [Act.put, List.setIfInBounds_toArray, List.set_cons_zero, List.set_cons_succ]
              refine pure_ (i := 22) (N := some 71) (v := undef) (lN 29 23) rfl rfl (by kernel_rfl) (fun _ _ _ h => h) (Or.inr ⟨by kernel_rfl, rfl⟩) rfl ?_
              simp only [Act.put, List.setIfInBounds_toArray, List.set_cons_zero, List.set_cons_succ]
              refine pure_ (i := 23) (N := some 72) (v := undef) (lN 29 24) rfl rfl (by kernel_rfl) (fun _ _ _ h => h) (Or.inr ⟨by kernel_rfl, rfl⟩) rfl ?_
              simp only [Act.put, List.setIfInBounds_toArray, List.set_cons_zero, List.set_cons_succ]
              refine pure_ (i := 24) (N := some 73) (v := undef) (lN 29 25) rfl rfl (by kernel_rfl) (fun _ _ _ h => h) (Or.inr ⟨by kernel_rfl, rfl⟩) rfl ?_
              simp only [Act.put, List.setIfInBounds_toArray, List.set_cons_zero, List.set_cons_succ]
              refine pure_ (i := 25) (N := some 74) (v := undef) (lN 29 26) rfl rfl (by kernel_rfl) (fun _ _ _ h => h) (Or.inr ⟨by kernel_rfl, rfl⟩) rfl ?_
              simp only [Act.put, List.setIfInBounds_toArray, List.set_cons_zero, List.set_cons_succ]
              refine pure_ (i := 26) (N := some 75) (v := undef) (lN 29 27) rfl rfl (by kernel_rfl) (fun _ _ _ h => h) (Or.inr ⟨by kernel_rfl, rfl⟩) rfl ?_
              simp only [Act.put, List.setIfInBounds_toArray, List.set_cons_zero, List.set_cons_succ]
              refine pure_ (i := 27) (N := some 76) (v := .bool false) (lN 29 28) rfl rfl (by kernel_rfl) (fun _ _ _ h => h) (Or.inl ⟨by kernel_rfl, fun w' => by kernel_rfl⟩) rfl ?_
              simp only [Act.put, List.setIfInBounds_toArray, List.set_cons_zero, List.set_cons_succ]
              refine pure_ (i := 28) (N := some 48) (v := .bool false) (lN 29 29) rfl rfl (by kernel_rfl) (fun _ _ _ h => h) (Or.inl ⟨by kernel_rfl, fun w' => by kernel_rfl⟩) rfl ?_
              simp only [Act.put, List.setIfInBounds_toArray, List.set_cons_zero, List.set_cons_succ]
              refine done_ (by kernel_rfl) ?_
              go_wp2
              go_ret
              exact ⟨by rw [HO.out, HL.out, show decideI sh a s o lf = 3 by unfold decideI; rw [if_neg (by rw [Q1.out]; decide), if_neg (by rw [Q2.out]; decide), if_neg (by rw [Q3.out]; simp), if_neg (by have := Q4.out; omega), if_neg (by rw [QS.out]; decide), if_pos Qh3.out]]; rfl, HBF.out⟩
            | false =>
              have Qh3 := Aside0.mk qh
              clear qh
              cases qb : a.b10 with
              | true =>
                have Qb10 := Aside0.mk qb
                clear qb
                refine start_ (n := 29) (S := fun w' => w'.heap[B0]? = some (.cells a.cells 50 (0, 0)) ∧ w'.heap[B0 + 1]? = some (.cells s.cells 50 (0, 0))) (ds := []) (lN 29 0) (by kernel_rfl) rfl rfl ⟨blk_drew HA.out, blk_drew HS.out⟩ (fun hHeld => ?_)
                have n0_ := Aside0.mk (blk_drew HA.out); have n1_ := Aside0.mk (blk_drew HS.out); have n2_ := Aside0.mk (below_drew1 HBF.out); clear HA HS HBF; have HA := n0_; have HS := n1_; have HBF := n2_; clear n0_ n1_ n2_
                generalize World.drew _ = wd at HA HS HBF hHeld ⊢
                refine pure_ (i := 0) (N := some 49) (v := .bool sh) (lN 29 1) rfl rfl (by kernel_rfl) (fun _ _ _ h => h) (Or.inl ⟨by kernel_rfl, fun w' => by kernel_rfl⟩) rfl ?_
                simp only [Act.put, List.setIfInBounds_toArray, List.set_cons_zero, List.set_cons_succ]
                refine take_ (i := 1) (N := some 50) (v := .agg s.cells) (lN 29 2) rfl rfl (by kernel_rfl) (fun _ _ _ h => h) (Or.inl ⟨by kernel_rfl, fun w' hs => us_load 50 (run_loadVar_row w' (B0 + 1) 50 50 s.cells (0, 0) _ hs.2 hu35 rfl (rinfo.trans HSS.out)) rfl rfl⟩) hHeld rfl ?_
                simp only [Act.put, List.setIfInBounds_toArray, List.set_cons_zero, List.set_cons_succ]
                refine one_ (i := 2) (N := some 51) (lN 29 3) rfl rfl (by kernel_rfl) (by decide) (fun K hK => ?_)
                refine goes_ Tryd.func34 (by kernel_rfl) rfl #[.bool sh, .agg s.cells] (by kernel_rfl) rfl rfl (by first | rfl | (simp only [List.map_toArray, List.map_cons, List.map_nil]; rfl)) ?_
                with_reducible refine (sprref19_strict.own sh s _).mono ?_
                rintro e wn2 ⟨rfl, hb⟩
                refine ⟨.bool (strictB sh s), rfl, ?_⟩
                have n0_ := Aside0.mk (HBF.out.trans (hb.mono HBF.out.size)); have n1_ := Aside0.mk (blk_below HA.out hb); have n2_ := Aside0.mk (blk_below HS.out hb); clear HBF HA HS hb; have HBF := n0_; have HA := n1_; have HS := n2_; clear n0_ n1_ n2_; clear hHeld
                refine hK.out _ _ ⟨HA.out, HS.out⟩ (fun hHeld => ?_)
                clear hK K
                rw [QS.out]
                simp only [Act.put, List.setIfInBounds_toArray, List.set_cons_zero, List.set_cons_succ]
                refine pure_ (i := 3) (N := some 52) (v := .bool true) (lN 29 4) rfl rfl (by kernel_rfl) (fun _ _ _ h => h) (Or.inl ⟨by kernel_rfl, fun w' => by kernel_rfl⟩) rfl ?_
                simp only [Act.put, List.setIfInBounds_toArray, List.set_cons_zero, List.set_cons_succ]
                refine pure_ (i := 4) (N := some 53) (v := .bool true) (lN 29 5) rfl rfl (by kernel_rfl) (fun _ _ _ h => h) (Or.inl ⟨by kernel_rfl, fun w' => by kernel_rfl⟩) rfl ?_
                simp only [Act.put, List.setIfInBounds_toArray, List.set_cons_zero, List.set_cons_succ]
                refine pure_ (i := 5) (N := some 54) (v := .pointer (some ⟨B0, 17, none⟩)) (lN 29 6) rfl rfl (by kernel_rfl) (fun _ _ _ h => h) (Or.inl ⟨by kernel_rfl, fun w' => by kernel_rfl⟩) rfl ?_
                simp only [Act.put, List.setIfInBounds_toArray, List.set_cons_zero, List.set_cons_succ]
                refine pure_ (i := 6) (N := some 55) (v := .pointer (some ⟨B0, 17, none⟩)) (lN 29 7) rfl rfl (by kernel_rfl) (fun _ _ _ h => h) (Or.inl ⟨by kernel_rfl, fun w' => by kernel_rfl⟩) rfl ?_
                simp only [Act.put, List.setIfInBounds_toArray, List.set_cons_zero, List.set_cons_succ]
                refine take_ (i := 7) (N := some 56) (v := .bool false) (lN 29 8) rfl rfl (by kernel_rfl) (fun _ _ _ h => h) (Or.inl ⟨by kernel_rfl, fun w' hs => us_load 4 (us_bool ((blk_cell hs.1 17).trans (show a.cells[17]? = some (.bool false) by show some (Value.bool a.h3) = _; rw [Qh3.out]))) rfl rfl⟩) hHeld rfl ?_
                simp only [Act.put, List.setIfInBounds_toArray, List.set_cons_zero, List.set_cons_succ]
                refine pure_ (i := 8) (N := some 57) (v := .bool true) (lN 29 9) rfl rfl (by kernel_rfl) (fun _ _ _ h => h) (Or.inl ⟨by kernel_rfl, fun w' => by kernel_rfl⟩) rfl ?_
                simp only [Act.put, List.setIfInBounds_toArray, List.set_cons_zero, List.set_cons_succ]
                refine pure_ (i := 9) (N := some 58) (v := .bool true) (lN 29 10) rfl rfl (by kernel_rfl) (fun _ _ _ h => h) (Or.inl ⟨by kernel_rfl, fun w' => by kernel_rfl⟩) rfl ?_
                simp only [Act.put, List.setIfInBounds_toArray, List.set_cons_zero, List.set_cons_succ]
                refine pure_ (i := 10) (N := some 59) (v := .bool true) (lN 29 11) rfl rfl (by kernel_rfl) (fun _ _ _ h => h) (Or.inl ⟨by kernel_rfl, fun w' => by kernel_rfl⟩) rfl ?_
                simp only [Act.put, List.setIfInBounds_toArray, List.set_cons_zero, List.set_cons_succ]
                refine pure_ (i := 11) (N := some 60) (v := .pointer (some ⟨B0, 10, none⟩)) (lN 29 12) rfl rfl (by kernel_rfl) (fun _ _ _ h => h) (Or.inl ⟨by kernel_rfl, fun w' => by kernel_rfl⟩) rfl ?_
                simp only [Act.put, List.setIfInBounds_toArray, List.set_cons_zero, List.set_cons_succ]
                refine take_ (i := 12) (N := some 61) (v := .bool true) (lN 29 13) rfl rfl (by kernel_rfl) (fun _ _ _ h => h) (Or.inl ⟨by kernel_rfl, fun w' hs => us_load 4 (us_bool ((blk_cell hs.1 10).trans (show a.cells[10]? = some (.bool true) by show some (Value.bool a.b10) = _; rw [Qb10.out]))) rfl rfl⟩) hHeld rfl ?_
                simp only [Act.put, List.setIfInBounds_toArray, List.set_cons_zero, List.set_cons_succ]
                refine pure_ (i := 13) (N := some 62) (v := .bool true) (lN 29 14) rfl rfl (by kernel_rfl) (fun _ _ _ h => h) (Or.inl ⟨by kernel_rfl, fun w' => by kernel_rfl⟩) rfl ?_
                simp only [Act.put, List.setIfInBounds_toArray, List.set_cons_zero, List.set_cons_succ]
                refine pure_ (i := 14) (N := some 63) (v := undef) (lN 29 15) rfl rfl (by kernel_rfl) (fun _ _ _ h => h) (Or.inr ⟨by kernel_rfl, rfl⟩) rfl ?_
                simp only [Act.put, List.setIfInBounds_toArray, List.set_cons_zero, List.set_cons_succ]
                refine pure_ (i := 15) (N := some 64) (v := undef) (lN 29 16) rfl rfl (by kernel_rfl) (fun _ _ _ h => h) (Or.inr ⟨by kernel_rfl, rfl⟩) rfl ?_
                simp only [Act.put, List.setIfInBounds_toArray, List.set_cons_zero, List.set_cons_succ]
                refine pure_ (i := 16) (N := some 65) (v := undef) (lN 29 17) rfl rfl (by kernel_rfl) (fun _ _ _ h => h) (Or.inr ⟨by kernel_rfl, rfl⟩) rfl ?_
                simp only [Act.put, List.setIfInBounds_toArray, List.set_cons_zero, List.set_cons_succ]
                refine pure_ (i := 17) (N := some 66) (v := undef) (lN 29 18) rfl rfl (by kernel_rfl) (fun _ _ _ h => h) (Or.inr ⟨by kernel_rfl, rfl⟩) rfl ?_
                simp only [Act.put, List.setIfInBounds_toArray, List.set_cons_zero, List.set_cons_succ]
                refine pure_ (i := 18) (N := some 67) (v := undef) (lN 29 19) rfl rfl (by kernel_rfl) (fun _ _ _ h => h) (Or.inr ⟨by kernel_rfl, rfl⟩) rfl ?_
                simp only [Act.put, List.setIfInBounds_toArray, List.set_cons_zero, List.set_cons_succ]
                refine pure_ (i := 19) (N := some 68) (v := undef) (lN 29 20) rfl rfl (by kernel_rfl) (fun _ _ _ h => h) (Or.inr ⟨by kernel_rfl, rfl⟩) rfl ?_
                simp only [Act.put, List.setIfInBounds_toArray, List.set_cons_zero, List.set_cons_succ]
                refine pure_ (i := 20) (N := some 69) (v := undef) (lN 29 21) rfl rfl (by kernel_rfl) (fun _ _ _ h => h) (Or.inr ⟨by kernel_rfl, rfl⟩) rfl ?_
                simp only [Act.put, List.setIfInBounds_toArray, List.set_cons_zero, List.set_cons_succ]
                refine pure_ (i := 21) (N := some 70) (v := undef) (lN 29 22) rfl rfl (by kernel_rfl) (fun _ _ _ h => h) (Or.inr ⟨by kernel_rfl, rfl⟩) rfl ?_
                simp only [Act.put, List.setIfInBounds_toArray, List.set_cons_zero, List.set_cons_succ]
                refine pure_ (i := 22) (N := some 71) (v := undef) (lN 29 23) rfl rfl (by kernel_rfl) (fun _ _ _ h => h) (Or.inr ⟨by kernel_rfl, rfl⟩) rfl ?_
                simp only [Act.put, List.setIfInBounds_toArray, List.set_cons_zero, List.set_cons_succ]
                refine pure_ (i := 23) (N := some 72) (v := undef) (lN 29 24) rfl rfl (by kernel_rfl) (fun _ _ _ h => h) (Or.inr ⟨by kernel_rfl, rfl⟩) rfl ?_
                simp only [Act.put, List.setIfInBounds_toArray, List.set_cons_zero, List.set_cons_succ]
                refine pure_ (i := 24) (N := some 73) (v := undef) (lN 29 25) rfl rfl (by kernel_rfl) (fun _ _ _ h => h) (Or.inr ⟨by kernel_rfl, rfl⟩) rfl ?_
                simp only [Act.put, List.setIfInBounds_toArray, List.set_cons_zero, List.set_cons_succ]
                refine pure_ (i := 25) (N := some 74) (v := undef) (lN 29 26) rfl rfl (by kernel_rfl) (fun _ _ _ h => h) (Or.inr ⟨by kernel_rfl, rfl⟩) rfl ?_
                simp only [Act.put, List.setIfInBounds_toArray, List.set_cons_zero, List.set_cons_succ]
                refine pure_ (i := 26) (N := some 75) (v := .bool true) (lN 29 27) rfl rfl (by kernel_rfl) (fun _ _ _ h => h) (Or.inl ⟨by kernel_rfl, fun w' => by kernel_rfl⟩) rfl ?_
                simp only [Act.put, List.setIfInBounds_toArray, List.set_cons_zero, List.set_cons_succ]
                refine pure_ (i := 27) (N := some 76) (v := .bool true) (lN 29 28) rfl rfl (by kernel_rfl) (fun _ _ _ h => h) (Or.inl ⟨by kernel_rfl, fun w' => by kernel_rfl⟩) rfl ?_
                simp only [Act.put, List.setIfInBounds_toArray, List.set_cons_zero, List.set_cons_succ]
                refine pure_ (i := 28) (N := some 48) (v := .bool true) (lN 29 29) rfl rfl (by kernel_rfl) (fun _ _ _ h => h) (Or.inl ⟨by kernel_rfl, fun w' => by kernel_rfl⟩) rfl ?_
                simp only [Act.put, List.setIfInBounds_toArray, List.set_cons_zero, List.set_cons_succ]
                refine done_ (by kernel_rfl) ?_
                go_wp2
                go_ret
                exact ⟨by rw [HO.out, HL.out, show decideI sh a s o lf = 2 by unfold decideI; rw [if_neg (by rw [Q1.out]; decide), if_neg (by rw [Q2.out]; decide), if_neg (by rw [Q3.out]; simp), if_neg (by have := Q4.out; omega), if_neg (by rw [QS.out]; decide), if_neg (by rw [Qh3.out]; decide), if_pos Qb10.out]]; rfl, HBF.out⟩
              | false =>
                have Qb10 := Aside0.mk qb
                clear qb
                cases qg : a.h2 with
                | false =>
                  have Qh2 := Aside0.mk qg
                  clear qg
                  refine start_ (n := 29) (S := fun w' => w'.heap[B0]? = some (.cells a.cells 50 (0, 0)) ∧ w'.heap[B0 + 1]? = some (.cells s.cells 50 (0, 0))) (ds := []) (lN 29 0) (by kernel_rfl) rfl rfl ⟨blk_drew HA.out, blk_drew HS.out⟩ (fun hHeld => ?_)
                  have n0_ := Aside0.mk (blk_drew HA.out); have n1_ := Aside0.mk (blk_drew HS.out); have n2_ := Aside0.mk (below_drew1 HBF.out); clear HA HS HBF; have HA := n0_; have HS := n1_; have HBF := n2_; clear n0_ n1_ n2_
                  generalize World.drew _ = wd at HA HS HBF hHeld ⊢
                  refine pure_ (i := 0) (N := some 49) (v := .bool sh) (lN 29 1) rfl rfl (by kernel_rfl) (fun _ _ _ h => h) (Or.inl ⟨by kernel_rfl, fun w' => by kernel_rfl⟩) rfl ?_
                  simp only [Act.put, List.setIfInBounds_toArray, List.set_cons_zero, List.set_cons_succ]
                  refine take_ (i := 1) (N := some 50) (v := .agg s.cells) (lN 29 2) rfl rfl (by kernel_rfl) (fun _ _ _ h => h) (Or.inl ⟨by kernel_rfl, fun w' hs => us_load 50 (run_loadVar_row w' (B0 + 1) 50 50 s.cells (0, 0) _ hs.2 hu35 rfl (rinfo.trans HSS.out)) rfl rfl⟩) hHeld rfl ?_
                  simp only [Act.put, List.setIfInBounds_toArray, List.set_cons_zero, List.set_cons_succ]
                  refine one_ (i := 2) (N := some 51) (lN 29 3) rfl rfl (by kernel_rfl) (by decide) (fun K hK => ?_)
                  refine goes_ Tryd.func34 (by kernel_rfl) rfl #[.bool sh, .agg s.cells] (by kernel_rfl) rfl rfl (by first | rfl | (simp only [List.map_toArray, List.map_cons, List.map_nil]; rfl)) ?_
                  with_reducible refine (sprref19_strict.own sh s _).mono ?_
                  rintro e wn2 ⟨rfl, hb⟩
                  refine ⟨.bool (strictB sh s), rfl, ?_⟩
                  have n0_ := Aside0.mk (HBF.out.trans (hb.mono HBF.out.size)); have n1_ := Aside0.mk (blk_below HA.out hb); have n2_ := Aside0.mk (blk_below HS.out hb); clear HBF HA HS hb; have HBF := n0_; have HA := n1_; have HS := n2_; clear n0_ n1_ n2_; clear hHeld
                  refine hK.out _ _ ⟨HA.out, HS.out⟩ (fun hHeld => ?_)
                  clear hK K
                  rw [QS.out]
                  simp only [Act.put, List.setIfInBounds_toArray, List.set_cons_zero, List.set_cons_succ]
                  refine pure_ (i := 3) (N := some 52) (v := .bool true) (lN 29 4) rfl rfl (by kernel_rfl) (fun _ _ _ h => h) (Or.inl ⟨by kernel_rfl, fun w' => by kernel_rfl⟩) rfl ?_
                  simp only [Act.put, List.setIfInBounds_toArray, List.set_cons_zero, List.set_cons_succ]
                  refine pure_ (i := 4) (N := some 53) (v := .bool true) (lN 29 5) rfl rfl (by kernel_rfl) (fun _ _ _ h => h) (Or.inl ⟨by kernel_rfl, fun w' => by kernel_rfl⟩) rfl ?_
                  simp only [Act.put, List.setIfInBounds_toArray, List.set_cons_zero, List.set_cons_succ]
                  refine pure_ (i := 5) (N := some 54) (v := .pointer (some ⟨B0, 17, none⟩)) (lN 29 6) rfl rfl (by kernel_rfl) (fun _ _ _ h => h) (Or.inl ⟨by kernel_rfl, fun w' => by kernel_rfl⟩) rfl ?_
                  simp only [Act.put, List.setIfInBounds_toArray, List.set_cons_zero, List.set_cons_succ]
                  refine pure_ (i := 6) (N := some 55) (v := .pointer (some ⟨B0, 17, none⟩)) (lN 29 7) rfl rfl (by kernel_rfl) (fun _ _ _ h => h) (Or.inl ⟨by kernel_rfl, fun w' => by kernel_rfl⟩) rfl ?_
                  simp only [Act.put, List.setIfInBounds_toArray, List.set_cons_zero, List.set_cons_succ]
                  refine take_ (i := 7) (N := some 56) (v := .bool false) (lN 29 8) rfl rfl (by kernel_rfl) (fun _ _ _ h => h) (Or.inl ⟨by kernel_rfl, fun w' hs => us_load 4 (us_bool ((blk_cell hs.1 17).trans (show a.cells[17]? = some (.bool false) by show some (Value.bool a.h3) = _; rw [Qh3.out]))) rfl rfl⟩) hHeld rfl ?_
                  simp only [Act.put, List.setIfInBounds_toArray, List.set_cons_zero, List.set_cons_succ]
                  refine pure_ (i := 8) (N := some 57) (v := .bool true) (lN 29 9) rfl rfl (by kernel_rfl) (fun _ _ _ h => h) (Or.inl ⟨by kernel_rfl, fun w' => by kernel_rfl⟩) rfl ?_
                  simp only [Act.put, List.setIfInBounds_toArray, List.set_cons_zero, List.set_cons_succ]
                  refine pure_ (i := 9) (N := some 58) (v := .bool true) (lN 29 10) rfl rfl (by kernel_rfl) (fun _ _ _ h => h) (Or.inl ⟨by kernel_rfl, fun w' => by kernel_rfl⟩) rfl ?_
                  simp only [Act.put, List.setIfInBounds_toArray, List.set_cons_zero, List.set_cons_succ]
                  refine pure_ (i := 10) (N := some 59) (v := .bool true) (lN 29 11) rfl rfl (by kernel_rfl) (fun _ _ _ h => h) (Or.inl ⟨by kernel_rfl, fun w' => by kernel_rfl⟩) rfl ?_
                  simp only [Act.put, List.setIfInBounds_toArray, List.set_cons_zero, List.set_cons_succ]
                  refine pure_ (i := 11) (N := some 60) (v := .pointer (some ⟨B0, 10, none⟩)) (lN 29 12) rfl rfl (by kernel_rfl) (fun _ _ _ h => h) (Or.inl ⟨by kernel_rfl, fun w' => by kernel_rfl⟩) rfl ?_
                  simp only [Act.put, List.setIfInBounds_toArray, List.set_cons_zero, List.set_cons_succ]
                  refine take_ (i := 12) (N := some 61) (v := .bool false) (lN 29 13) rfl rfl (by kernel_rfl) (fun _ _ _ h => h) (Or.inl ⟨by kernel_rfl, fun w' hs => us_load 4 (us_bool ((blk_cell hs.1 10).trans (show a.cells[10]? = some (.bool false) by show some (Value.bool a.b10) = _; rw [Qb10.out]))) rfl rfl⟩) hHeld rfl ?_
                  simp only [Act.put, List.setIfInBounds_toArray, List.set_cons_zero, List.set_cons_succ]
                  refine pure_ (i := 13) (N := some 62) (v := .bool false) (lN 29 14) rfl rfl (by kernel_rfl) (fun _ _ _ h => h) (Or.inl ⟨by kernel_rfl, fun w' => by kernel_rfl⟩) rfl ?_
                  simp only [Act.put, List.setIfInBounds_toArray, List.set_cons_zero, List.set_cons_succ]
                  refine pure_ (i := 14) (N := some 63) (v := .pointer (some ⟨B0, 15, none⟩)) (lN 29 15) rfl rfl (by kernel_rfl) (fun _ _ _ h => h) (Or.inl ⟨by kernel_rfl, fun w' => by kernel_rfl⟩) rfl ?_
                  simp only [Act.put, List.setIfInBounds_toArray, List.set_cons_zero, List.set_cons_succ]
                  refine pure_ (i := 15) (N := some 64) (v := .pointer (some ⟨B0, 15, none⟩)) (lN 29 16) rfl rfl (by kernel_rfl) (fun _ _ _ h => h) (Or.inl ⟨by kernel_rfl, fun w' => by kernel_rfl⟩) rfl ?_
                  simp only [Act.put, List.setIfInBounds_toArray, List.set_cons_zero, List.set_cons_succ]
                  refine take_ (i := 16) (N := some 65) (v := .bool false) (lN 29 17) rfl rfl (by kernel_rfl) (fun _ _ _ h => h) (Or.inl ⟨by kernel_rfl, fun w' hs => us_load 4 (us_bool ((blk_cell hs.1 15).trans (show a.cells[15]? = some (.bool false) by show some (Value.bool a.h2) = _; rw [Qh2.out]))) rfl rfl⟩) hHeld rfl ?_
                  simp only [Act.put, List.setIfInBounds_toArray, List.set_cons_zero, List.set_cons_succ]
                  refine pure_ (i := 17) (N := some 66) (v := .bool false) (lN 29 18) rfl rfl (by kernel_rfl) (fun _ _ _ h => h) (Or.inl ⟨by kernel_rfl, fun w' => by kernel_rfl⟩) rfl ?_
                  simp only [Act.put, List.setIfInBounds_toArray, List.set_cons_zero, List.set_cons_succ]
                  refine pure_ (i := 18) (N := some 67) (v := undef) (lN 29 19) rfl rfl (by kernel_rfl) (fun _ _ _ h => h) (Or.inr ⟨by kernel_rfl, rfl⟩) rfl ?_
                  simp only [Act.put, List.setIfInBounds_toArray, List.set_cons_zero, List.set_cons_succ]
                  refine pure_ (i := 19) (N := some 68) (v := undef) (lN 29 20) rfl rfl (by kernel_rfl) (fun _ _ _ h => h) (Or.inr ⟨by kernel_rfl, rfl⟩) rfl ?_
                  simp only [Act.put, List.setIfInBounds_toArray, List.set_cons_zero, List.set_cons_succ]
                  refine pure_ (i := 20) (N := some 69) (v := undef) (lN 29 21) rfl rfl (by kernel_rfl) (fun _ _ _ h => h) (Or.inr ⟨by kernel_rfl, rfl⟩) rfl ?_
                  simp only [Act.put, List.setIfInBounds_toArray, List.set_cons_zero, List.set_cons_succ]
                  refine pure_ (i := 21) (N := some 70) (v := undef) (lN 29 22) rfl rfl (by kernel_rfl) (fun _ _ _ h => h) (Or.inr ⟨by kernel_rfl, rfl⟩) rfl ?_
                  simp only [Act.put, List.setIfInBounds_toArray, List.set_cons_zero, List.set_cons_succ]
                  refine pure_ (i := 22) (N := some 71) (v := undef) (lN 29 23) rfl rfl (by kernel_rfl) (fun _ _ _ h => h) (Or.inr ⟨by kernel_rfl, rfl⟩) rfl ?_
                  simp only [Act.put, List.setIfInBounds_toArray, List.set_cons_zero, List.set_cons_succ]
                  refine pure_ (i := 23) (N := some 72) (v := undef) (lN 29 24) rfl rfl (by kernel_rfl) (fun _ _ _ h => h) (Or.inr ⟨by kernel_rfl, rfl⟩) rfl ?_
                  simp only [Act.put, List.setIfInBounds_toArray, List.set_cons_zero, List.set_cons_succ]
                  refine pure_ (i := 24) (N := some 73) (v := undef) (lN 29 25) rfl rfl (by kernel_rfl) (fun _ _ _ h => h) (Or.inr ⟨by kernel_rfl, rfl⟩) rfl ?_
                  simp only [Act.put, List.setIfInBounds_toArray, List.set_cons_zero, List.set_cons_succ]
                  refine pure_ (i := 25) (N := some 74) (v := .bool false) (lN 29 26) rfl rfl (by kernel_rfl) (fun _ _ _ h => h) (Or.inl ⟨by kernel_rfl, fun w' => by kernel_rfl⟩) rfl ?_
                  simp only [Act.put, List.setIfInBounds_toArray, List.set_cons_zero, List.set_cons_succ]
                  refine pure_ (i := 26) (N := some 75) (v := .bool false) (lN 29 27) rfl rfl (by kernel_rfl) (fun _ _ _ h => h) (Or.inl ⟨by kernel_rfl, fun w' => by kernel_rfl⟩) rfl ?_
                  simp only [Act.put, List.setIfInBounds_toArray, List.set_cons_zero, List.set_cons_succ]
                  refine pure_ (i := 27) (N := some 76) (v := .bool false) (lN 29 28) rfl rfl (by kernel_rfl) (fun _ _ _ h => h) (Or.inl ⟨by kernel_rfl, fun w' => by kernel_rfl⟩) rfl ?_
                  simp only [Act.put, List.setIfInBounds_toArray, List.set_cons_zero, List.set_cons_succ]
                  refine pure_ (i := 28) (N := some 48) (v := .bool false) (lN 29 29) rfl rfl (by kernel_rfl) (fun _ _ _ h => h) (Or.inl ⟨by kernel_rfl, fun w' => by kernel_rfl⟩) rfl ?_
                  simp only [Act.put, List.setIfInBounds_toArray, List.set_cons_zero, List.set_cons_succ]
                  refine done_ (by kernel_rfl) ?_
                  go_wp2
                  go_ret
                  exact ⟨by rw [HO.out, HL.out, show decideI sh a s o lf = 3 by unfold decideI; rw [if_neg (by rw [Q1.out]; decide), if_neg (by rw [Q2.out]; decide), if_neg (by rw [Q3.out]; simp), if_neg (by have := Q4.out; omega), if_neg (by rw [QS.out]; decide), if_neg (by rw [Qh3.out]; decide), if_neg (by rw [Qb10.out]; decide), if_neg (by rw [Qh2.out]; decide)]]; rfl, HBF.out⟩
                | true =>
                  have Qh2 := Aside0.mk qg
                  clear qg
                  by_cases qn : a.n2 ≥ subI o lf
                  · have QG := Aside0.mk (decide_eq_true qn)
                    have QN := Aside0.mk qn
                    clear qn
                    refine start_ (n := 29) (S := fun w' => w'.heap[B0]? = some (.cells a.cells 50 (0, 0)) ∧ w'.heap[B0 + 1]? = some (.cells s.cells 50 (0, 0))) (ds := []) (lN 29 0) (by kernel_rfl) rfl rfl ⟨blk_drew HA.out, blk_drew HS.out⟩ (fun hHeld => ?_)
                    have n0_ := Aside0.mk (blk_drew HA.out); have n1_ := Aside0.mk (blk_drew HS.out); have n2_ := Aside0.mk (below_drew1 HBF.out); clear HA HS HBF; have HA := n0_; have HS := n1_; have HBF := n2_; clear n0_ n1_ n2_
                    generalize World.drew _ = wd at HA HS HBF hHeld ⊢
                    refine pure_ (i := 0) (N := some 49) (v := .bool sh) (lN 29 1) rfl rfl (by kernel_rfl) (fun _ _ _ h => h) (Or.inl ⟨by kernel_rfl, fun w' => by kernel_rfl⟩) rfl ?_
                    simp only [Act.put, List.setIfInBounds_toArray, List.set_cons_zero, List.set_cons_succ]
                    refine take_ (i := 1) (N := some 50) (v := .agg s.cells) (lN 29 2) rfl rfl (by kernel_rfl) (fun _ _ _ h => h) (Or.inl ⟨by kernel_rfl, fun w' hs => us_load 50 (run_loadVar_row w' (B0 + 1) 50 50 s.cells (0, 0) _ hs.2 hu35 rfl (rinfo.trans HSS.out)) rfl rfl⟩) hHeld rfl ?_
                    simp only [Act.put, List.setIfInBounds_toArray, List.set_cons_zero, List.set_cons_succ]
                    refine one_ (i := 2) (N := some 51) (lN 29 3) rfl rfl (by kernel_rfl) (by decide) (fun K hK => ?_)
                    refine goes_ Tryd.func34 (by kernel_rfl) rfl #[.bool sh, .agg s.cells] (by kernel_rfl) rfl rfl (by first | rfl | (simp only [List.map_toArray, List.map_cons, List.map_nil]; rfl)) ?_
                    with_reducible refine (sprref19_strict.own sh s _).mono ?_
                    rintro e wn2 ⟨rfl, hb⟩
                    refine ⟨.bool (strictB sh s), rfl, ?_⟩
                    have n0_ := Aside0.mk (HBF.out.trans (hb.mono HBF.out.size)); have n1_ := Aside0.mk (blk_below HA.out hb); have n2_ := Aside0.mk (blk_below HS.out hb); clear HBF HA HS hb; have HBF := n0_; have HA := n1_; have HS := n2_; clear n0_ n1_ n2_; clear hHeld
                    refine hK.out _ _ ⟨HA.out, HS.out⟩ (fun hHeld => ?_)
                    clear hK K
                    rw [QS.out]
                    simp only [Act.put, List.setIfInBounds_toArray, List.set_cons_zero, List.set_cons_succ]
                    refine pure_ (i := 3) (N := some 52) (v := .bool true) (lN 29 4) rfl rfl (by kernel_rfl) (fun _ _ _ h => h) (Or.inl ⟨by kernel_rfl, fun w' => by kernel_rfl⟩) rfl ?_
                    simp only [Act.put, List.setIfInBounds_toArray, List.set_cons_zero, List.set_cons_succ]
                    refine pure_ (i := 4) (N := some 53) (v := .bool true) (lN 29 5) rfl rfl (by kernel_rfl) (fun _ _ _ h => h) (Or.inl ⟨by kernel_rfl, fun w' => by kernel_rfl⟩) rfl ?_
                    simp only [Act.put, List.setIfInBounds_toArray, List.set_cons_zero, List.set_cons_succ]
                    refine pure_ (i := 5) (N := some 54) (v := .pointer (some ⟨B0, 17, none⟩)) (lN 29 6) rfl rfl (by kernel_rfl) (fun _ _ _ h => h) (Or.inl ⟨by kernel_rfl, fun w' => by kernel_rfl⟩) rfl ?_
                    simp only [Act.put, List.setIfInBounds_toArray, List.set_cons_zero, List.set_cons_succ]
                    refine pure_ (i := 6) (N := some 55) (v := .pointer (some ⟨B0, 17, none⟩)) (lN 29 7) rfl rfl (by kernel_rfl) (fun _ _ _ h => h) (Or.inl ⟨by kernel_rfl, fun w' => by kernel_rfl⟩) rfl ?_
                    simp only [Act.put, List.setIfInBounds_toArray, List.set_cons_zero, List.set_cons_succ]
                    refine take_ (i := 7) (N := some 56) (v := .bool false) (lN 29 8) rfl rfl (by kernel_rfl) (fun _ _ _ h => h) (Or.inl ⟨by kernel_rfl, fun w' hs => us_load 4 (us_bool ((blk_cell hs.1 17).trans (show a.cells[17]? = some (.bool false) by show some (Value.bool a.h3) = _; rw [Qh3.out]))) rfl rfl⟩) hHeld rfl ?_
                    simp only [Act.put, List.setIfInBounds_toArray, List.set_cons_zero, List.set_cons_succ]
                    refine pure_ (i := 8) (N := some 57) (v := .bool true) (lN 29 9) rfl rfl (by kernel_rfl) (fun _ _ _ h => h) (Or.inl ⟨by kernel_rfl, fun w' => by kernel_rfl⟩) rfl ?_
                    simp only [Act.put, List.setIfInBounds_toArray, List.set_cons_zero, List.set_cons_succ]
                    refine pure_ (i := 9) (N := some 58) (v := .bool true) (lN 29 10) rfl rfl (by kernel_rfl) (fun _ _ _ h => h) (Or.inl ⟨by kernel_rfl, fun w' => by kernel_rfl⟩) rfl ?_
                    simp only [Act.put, List.setIfInBounds_toArray, List.set_cons_zero, List.set_cons_succ]
                    refine pure_ (i := 10) (N := some 59) (v := .bool true) (lN 29 11) rfl rfl (by kernel_rfl) (fun _ _ _ h => h) (Or.inl ⟨by kernel_rfl, fun w' => by kernel_rfl⟩) rfl ?_
                    simp only [Act.put, List.setIfInBounds_toArray, List.set_cons_zero, List.set_cons_succ]
                    refine pure_ (i := 11) (N := some 60) (v := .pointer (some ⟨B0, 10, none⟩)) (lN 29 12) rfl rfl (by kernel_rfl) (fun _ _ _ h => h) (Or.inl ⟨by kernel_rfl, fun w' => by kernel_rfl⟩) rfl ?_
                    simp only [Act.put, List.setIfInBounds_toArray, List.set_cons_zero, List.set_cons_succ]
                    refine take_ (i := 12) (N := some 61) (v := .bool false) (lN 29 13) rfl rfl (by kernel_rfl) (fun _ _ _ h => h) (Or.inl ⟨by kernel_rfl, fun w' hs => us_load 4 (us_bool ((blk_cell hs.1 10).trans (show a.cells[10]? = some (.bool false) by show some (Value.bool a.b10) = _; rw [Qb10.out]))) rfl rfl⟩) hHeld rfl ?_
                    simp only [Act.put, List.setIfInBounds_toArray, List.set_cons_zero, List.set_cons_succ]
                    refine pure_ (i := 13) (N := some 62) (v := .bool false) (lN 29 14) rfl rfl (by kernel_rfl) (fun _ _ _ h => h) (Or.inl ⟨by kernel_rfl, fun w' => by kernel_rfl⟩) rfl ?_
                    simp only [Act.put, List.setIfInBounds_toArray, List.set_cons_zero, List.set_cons_succ]
                    refine pure_ (i := 14) (N := some 63) (v := .pointer (some ⟨B0, 15, none⟩)) (lN 29 15) rfl rfl (by kernel_rfl) (fun _ _ _ h => h) (Or.inl ⟨by kernel_rfl, fun w' => by kernel_rfl⟩) rfl ?_
                    simp only [Act.put, List.setIfInBounds_toArray, List.set_cons_zero, List.set_cons_succ]
                    refine pure_ (i := 15) (N := some 64) (v := .pointer (some ⟨B0, 15, none⟩)) (lN 29 16) rfl rfl (by kernel_rfl) (fun _ _ _ h => h) (Or.inl ⟨by kernel_rfl, fun w' => by kernel_rfl⟩) rfl ?_
                    simp only [Act.put, List.setIfInBounds_toArray, List.set_cons_zero, List.set_cons_succ]
                    refine take_ (i := 16) (N := some 65) (v := .bool true) (lN 29 17) rfl rfl (by kernel_rfl) (fun _ _ _ h => h) (Or.inl ⟨by kernel_rfl, fun w' hs => us_load 4 (us_bool ((blk_cell hs.1 15).trans (show a.cells[15]? = some (.bool true) by show some (Value.bool a.h2) = _; rw [Qh2.out]))) rfl rfl⟩) hHeld rfl ?_
                    simp only [Act.put, List.setIfInBounds_toArray, List.set_cons_zero, List.set_cons_succ]
                    refine pure_ (i := 17) (N := some 66) (v := .bool true) (lN 29 18) rfl rfl (by kernel_rfl) (fun _ _ _ h => h) (Or.inl ⟨by kernel_rfl, fun w' => by kernel_rfl⟩) rfl ?_
                    simp only [Act.put, List.setIfInBounds_toArray, List.set_cons_zero, List.set_cons_succ]
                    refine pure_ (i := 18) (N := some 67) (v := .pointer (some ⟨B0, 15, none⟩)) (lN 29 19) rfl rfl (by kernel_rfl) (fun _ _ _ h => h) (Or.inl ⟨by kernel_rfl, fun w' => by kernel_rfl⟩) rfl ?_
                    simp only [Act.put, List.setIfInBounds_toArray, List.set_cons_zero, List.set_cons_succ]
                    refine pure_ (i := 19) (N := some 68) (v := .pointer (some ⟨B0, 16, none⟩)) (lN 29 20) rfl rfl (by kernel_rfl) (fun _ _ _ h => h) (Or.inl ⟨by kernel_rfl, fun w' => by kernel_rfl⟩) rfl ?_
                    simp only [Act.put, List.setIfInBounds_toArray, List.set_cons_zero, List.set_cons_succ]
                    refine take_ (i := 20) (N := some 69) (v := .int .i64 a.n2) (lN 29 21) rfl rfl (by kernel_rfl) (fun _ _ _ h => h) (Or.inl ⟨by kernel_rfl, fun w' hs => us_load 3 (us_int ((blk_cell hs.1 16).trans (show a.cells[16]? = some (.int .i64 a.n2) from rfl))) rfl rfl⟩) hHeld rfl ?_
                    simp only [Act.put, List.setIfInBounds_toArray, List.set_cons_zero, List.set_cons_succ]
                    refine pure_ (i := 21) (N := some 70) (v := .int .i64 o) (lN 29 22) rfl rfl (by kernel_rfl) (fun _ _ _ h => h) (Or.inl ⟨by kernel_rfl, fun w' => by kernel_rfl⟩) rfl ?_
                    simp only [Act.put, List.setIfInBounds_toArray, List.set_cons_zero, List.set_cons_succ]
                    refine pure_ (i := 22) (N := some 71) (v := .int .i64 lf) (lN 29 23) rfl rfl (by kernel_rfl) (fun _ _ _ h => h) (Or.inl ⟨by kernel_rfl, fun w' => by kernel_rfl⟩) rfl ?_
                    simp only [Act.put, List.setIfInBounds_toArray, List.set_cons_zero, List.set_cons_succ]
                    refine one_ (i := 23) (N := some 72) (lN 29 24) rfl rfl (by kernel_rfl) (by decide) (fun K hK => ?_)
                    refine goes_ Tryd.func35 (by kernel_rfl) rfl #[.int .i64 o, .int .i64 lf] (by kernel_rfl) rfl rfl (by first | rfl | (simp only [List.map_toArray, List.map_cons, List.map_nil]; rfl)) ?_
                    with_reducible refine (sprref1_Sub.calls o lf _ _ (SubR_is o lf)).mono ?_
                    rintro e wn23 ⟨rfl, hb⟩
                    refine ⟨.int .i64 (subI o lf), rfl, ?_⟩
                    have n0_ := Aside0.mk (HBF.out.trans (hb.mono HBF.out.size)); have n1_ := Aside0.mk (blk_below HA.out hb); have n2_ := Aside0.mk (blk_below HS.out hb); clear HBF HA HS hb; have HBF := n0_; have HA := n1_; have HS := n2_; clear n0_ n1_ n2_; clear hHeld
                    refine hK.out _ _ ⟨HA.out, HS.out⟩ (fun hHeld => ?_)
                    clear hK K
                    simp only [Act.put, List.setIfInBounds_toArray, List.set_cons_zero, List.set_cons_succ]
                    refine pure_ (i := 24) (N := some 73) (v := .bool true) (lN 29 25) rfl rfl (by kernel_rfl) (fun _ _ _ h => h) (Or.inl ⟨by kernel_rfl, fun w' => us_geq QG.out rfl rfl rfl⟩) rfl ?_
                    simp only [Act.put, List.setIfInBounds_toArray, List.set_cons_zero, List.set_cons_succ]
                    refine pure_ (i := 25) (N := some 74) (v := .bool true) (lN 29 26) rfl rfl (by kernel_rfl) (fun _ _ _ h => h) (Or.inl ⟨by kernel_rfl, fun w' => by kernel_rfl⟩) rfl ?_
                    simp only [Act.put, List.setIfInBounds_toArray, List.set_cons_zero, List.set_cons_succ]
                    refine pure_ (i := 26) (N := some 75) (v := .bool true) (lN 29 27) rfl rfl (by kernel_rfl) (fun _ _ _ h => h) (Or.inl ⟨by kernel_rfl, fun w' => by kernel_rfl⟩) rfl ?_
                    simp only [Act.put, List.setIfInBounds_toArray, List.set_cons_zero, List.set_cons_succ]
                    refine pure_ (i := 27) (N := some 76) (v := .bool true) (lN 29 28) rfl rfl (by kernel_rfl) (fun _ _ _ h => h) (Or.inl ⟨by kernel_rfl, fun w' => by kernel_rfl⟩) rfl ?_
                    simp only [Act.put, List.setIfInBounds_toArray, List.set_cons_zero, List.set_cons_succ]
                    refine pure_ (i := 28) (N := some 48) (v := .bool true) (lN 29 29) rfl rfl (by kernel_rfl) (fun _ _ _ h => h) (Or.inl ⟨by kernel_rfl, fun w' => by kernel_rfl⟩) rfl ?_
                    simp only [Act.put, List.setIfInBounds_toArray, List.set_cons_zero, List.set_cons_succ]
                    refine done_ (by kernel_rfl) ?_
                    go_wp2
                    go_ret
                    exact ⟨by rw [HO.out, HL.out, show decideI sh a s o lf = 2 by unfold decideI; rw [if_neg (by rw [Q1.out]; decide), if_neg (by rw [Q2.out]; decide), if_neg (by rw [Q3.out]; simp), if_neg (by have := Q4.out; omega), if_neg (by rw [QS.out]; decide), if_neg (by rw [Qh3.out]; decide), if_neg (by rw [Qb10.out]; decide), if_pos Qh2.out, if_pos (by have := QN.out; omega)]]; rfl, HBF.out⟩
                  · have QG := Aside0.mk (decide_eq_false qn)
                    have QN := Aside0.mk qn
                    clear qn
                    refine start_ (n := 29) (S := fun w' => w'.heap[B0]? = some (.cells a.cells 50 (0, 0)) ∧ w'.heap[B0 + 1]? = some (.cells s.cells 50 (0, 0))) (ds := []) (lN 29 0) (by kernel_rfl) rfl rfl ⟨blk_drew HA.out, blk_drew HS.out⟩ (fun hHeld => ?_)
                    have n0_ := Aside0.mk (blk_drew HA.out); have n1_ := Aside0.mk (blk_drew HS.out); have n2_ := Aside0.mk (below_drew1 HBF.out); clear HA HS HBF; have HA := n0_; have HS := n1_; have HBF := n2_; clear n0_ n1_ n2_
                    generalize World.drew _ = wd at HA HS HBF hHeld ⊢
                    refine pure_ (i := 0) (N := some 49) (v := .bool sh) (lN 29 1) rfl rfl (by kernel_rfl) (fun _ _ _ h => h) (Or.inl ⟨by kernel_rfl, fun w' => by kernel_rfl⟩) rfl ?_
                    simp only [Act.put, List.setIfInBounds_toArray, List.set_cons_zero, List.set_cons_succ]
                    refine take_ (i := 1) (N := some 50) (v := .agg s.cells) (lN 29 2) rfl rfl (by kernel_rfl) (fun _ _ _ h => h) (Or.inl ⟨by kernel_rfl, fun w' hs => us_load 50 (run_loadVar_row w' (B0 + 1) 50 50 s.cells (0, 0) _ hs.2 hu35 rfl (rinfo.trans HSS.out)) rfl rfl⟩) hHeld rfl ?_
                    simp only [Act.put, List.setIfInBounds_toArray, List.set_cons_zero, List.set_cons_succ]
                    refine one_ (i := 2) (N := some 51) (lN 29 3) rfl rfl (by kernel_rfl) (by decide) (fun K hK => ?_)
                    refine goes_ Tryd.func34 (by kernel_rfl) rfl #[.bool sh, .agg s.cells] (by kernel_rfl) rfl rfl (by first | rfl | (simp only [List.map_toArray, List.map_cons, List.map_nil]; rfl)) ?_
                    with_reducible refine (sprref19_strict.own sh s _).mono ?_
                    rintro e wn2 ⟨rfl, hb⟩
                    refine ⟨.bool (strictB sh s), rfl, ?_⟩
                    have n0_ := Aside0.mk (HBF.out.trans (hb.mono HBF.out.size)); have n1_ := Aside0.mk (blk_below HA.out hb); have n2_ := Aside0.mk (blk_below HS.out hb); clear HBF HA HS hb; have HBF := n0_; have HA := n1_; have HS := n2_; clear n0_ n1_ n2_; clear hHeld
                    refine hK.out _ _ ⟨HA.out, HS.out⟩ (fun hHeld => ?_)
                    clear hK K
                    rw [QS.out]
                    simp only [Act.put, List.setIfInBounds_toArray, List.set_cons_zero, List.set_cons_succ]
                    refine pure_ (i := 3) (N := some 52) (v := .bool true) (lN 29 4) rfl rfl (by kernel_rfl) (fun _ _ _ h => h) (Or.inl ⟨by kernel_rfl, fun w' => by kernel_rfl⟩) rfl ?_
                    simp only [Act.put, List.setIfInBounds_toArray, List.set_cons_zero, List.set_cons_succ]
                    refine pure_ (i := 4) (N := some 53) (v := .bool true) (lN 29 5) rfl rfl (by kernel_rfl) (fun _ _ _ h => h) (Or.inl ⟨by kernel_rfl, fun w' => by kernel_rfl⟩) rfl ?_
                    simp only [Act.put, List.setIfInBounds_toArray, List.set_cons_zero, List.set_cons_succ]
                    refine pure_ (i := 5) (N := some 54) (v := .pointer (some ⟨B0, 17, none⟩)) (lN 29 6) rfl rfl (by kernel_rfl) (fun _ _ _ h => h) (Or.inl ⟨by kernel_rfl, fun w' => by kernel_rfl⟩) rfl ?_
                    simp only [Act.put, List.setIfInBounds_toArray, List.set_cons_zero, List.set_cons_succ]
                    refine pure_ (i := 6) (N := some 55) (v := .pointer (some ⟨B0, 17, none⟩)) (lN 29 7) rfl rfl (by kernel_rfl) (fun _ _ _ h => h) (Or.inl ⟨by kernel_rfl, fun w' => by kernel_rfl⟩) rfl ?_
                    simp only [Act.put, List.setIfInBounds_toArray, List.set_cons_zero, List.set_cons_succ]
                    refine take_ (i := 7) (N := some 56) (v := .bool false) (lN 29 8) rfl rfl (by kernel_rfl) (fun _ _ _ h => h) (Or.inl ⟨by kernel_rfl, fun w' hs => us_load 4 (us_bool ((blk_cell hs.1 17).trans (show a.cells[17]? = some (.bool false) by show some (Value.bool a.h3) = _; rw [Qh3.out]))) rfl rfl⟩) hHeld rfl ?_
                    simp only [Act.put, List.setIfInBounds_toArray, List.set_cons_zero, List.set_cons_succ]
                    refine pure_ (i := 8) (N := some 57) (v := .bool true) (lN 29 9) rfl rfl (by kernel_rfl) (fun _ _ _ h => h) (Or.inl ⟨by kernel_rfl, fun w' => by kernel_rfl⟩) rfl ?_
                    simp only [Act.put, List.setIfInBounds_toArray, List.set_cons_zero, List.set_cons_succ]
                    refine pure_ (i := 9) (N := some 58) (v := .bool true) (lN 29 10) rfl rfl (by kernel_rfl) (fun _ _ _ h => h) (Or.inl ⟨by kernel_rfl, fun w' => by kernel_rfl⟩) rfl ?_
                    simp only [Act.put, List.setIfInBounds_toArray, List.set_cons_zero, List.set_cons_succ]
                    refine pure_ (i := 10) (N := some 59) (v := .bool true) (lN 29 11) rfl rfl (by kernel_rfl) (fun _ _ _ h => h) (Or.inl ⟨by kernel_rfl, fun w' => by kernel_rfl⟩) rfl ?_
                    simp only [Act.put, List.setIfInBounds_toArray, List.set_cons_zero, List.set_cons_succ]
                    refine pure_ (i := 11) (N := some 60) (v := .pointer (some ⟨B0, 10, none⟩)) (lN 29 12) rfl rfl (by kernel_rfl) (fun _ _ _ h => h) (Or.inl ⟨by kernel_rfl, fun w' => by kernel_rfl⟩) rfl ?_
                    simp only [Act.put, List.setIfInBounds_toArray, List.set_cons_zero, List.set_cons_succ]
                    refine take_ (i := 12) (N := some 61) (v := .bool false) (lN 29 13) rfl rfl (by kernel_rfl) (fun _ _ _ h => h) (Or.inl ⟨by kernel_rfl, fun w' hs => us_load 4 (us_bool ((blk_cell hs.1 10).trans (show a.cells[10]? = some (.bool false) by show some (Value.bool a.b10) = _; rw [Qb10.out]))) rfl rfl⟩) hHeld rfl ?_
                    simp only [Act.put, List.setIfInBounds_toArray, List.set_cons_zero, List.set_cons_succ]
                    refine pure_ (i := 13) (N := some 62) (v := .bool false) (lN 29 14) rfl rfl (by kernel_rfl) (fun _ _ _ h => h) (Or.inl ⟨by kernel_rfl, fun w' => by kernel_rfl⟩) rfl ?_
                    simp only [Act.put, List.setIfInBounds_toArray, List.set_cons_zero, List.set_cons_succ]
                    refine pure_ (i := 14) (N := some 63) (v := .pointer (some ⟨B0, 15, none⟩)) (lN 29 15) rfl rfl (by kernel_rfl) (fun _ _ _ h => h) (Or.inl ⟨by kernel_rfl, fun w' => by kernel_rfl⟩) rfl ?_
                    simp only [Act.put, List.setIfInBounds_toArray, List.set_cons_zero, List.set_cons_succ]
                    refine pure_ (i := 15) (N := some 64) (v := .pointer (some ⟨B0, 15, none⟩)) (lN 29 16) rfl rfl (by kernel_rfl) (fun _ _ _ h => h) (Or.inl ⟨by kernel_rfl, fun w' => by kernel_rfl⟩) rfl ?_
                    simp only [Act.put, List.setIfInBounds_toArray, List.set_cons_zero, List.set_cons_succ]
                    refine take_ (i := 16) (N := some 65) (v := .bool true) (lN 29 17) rfl rfl (by kernel_rfl) (fun _ _ _ h => h) (Or.inl ⟨by kernel_rfl, fun w' hs => us_load 4 (us_bool ((blk_cell hs.1 15).trans (show a.cells[15]? = some (.bool true) by show some (Value.bool a.h2) = _; rw [Qh2.out]))) rfl rfl⟩) hHeld rfl ?_
                    simp only [Act.put, List.setIfInBounds_toArray, List.set_cons_zero, List.set_cons_succ]
                    refine pure_ (i := 17) (N := some 66) (v := .bool true) (lN 29 18) rfl rfl (by kernel_rfl) (fun _ _ _ h => h) (Or.inl ⟨by kernel_rfl, fun w' => by kernel_rfl⟩) rfl ?_
                    simp only [Act.put, List.setIfInBounds_toArray, List.set_cons_zero, List.set_cons_succ]
                    refine pure_ (i := 18) (N := some 67) (v := .pointer (some ⟨B0, 15, none⟩)) (lN 29 19) rfl rfl (by kernel_rfl) (fun _ _ _ h => h) (Or.inl ⟨by kernel_rfl, fun w' => by kernel_rfl⟩) rfl ?_
                    simp only [Act.put, List.setIfInBounds_toArray, List.set_cons_zero, List.set_cons_succ]
                    refine pure_ (i := 19) (N := some 68) (v := .pointer (some ⟨B0, 16, none⟩)) (lN 29 20) rfl rfl (by kernel_rfl) (fun _ _ _ h => h) (Or.inl ⟨by kernel_rfl, fun w' => by kernel_rfl⟩) rfl ?_
                    simp only [Act.put, List.setIfInBounds_toArray, List.set_cons_zero, List.set_cons_succ]
                    refine take_ (i := 20) (N := some 69) (v := .int .i64 a.n2) (lN 29 21) rfl rfl (by kernel_rfl) (fun _ _ _ h => h) (Or.inl ⟨by kernel_rfl, fun w' hs => us_load 3 (us_int ((blk_cell hs.1 16).trans (show a.cells[16]? = some (.int .i64 a.n2) from rfl))) rfl rfl⟩) hHeld rfl ?_
                    simp only [Act.put, List.setIfInBounds_toArray, List.set_cons_zero, List.set_cons_succ]
                    refine pure_ (i := 21) (N := some 70) (v := .int .i64 o) (lN 29 22) rfl rfl (by kernel_rfl) (fun _ _ _ h => h) (Or.inl ⟨by kernel_rfl, fun w' => by kernel_rfl⟩) rfl ?_
                    simp only [Act.put, List.setIfInBounds_toArray, List.set_cons_zero, List.set_cons_succ]
                    refine pure_ (i := 22) (N := some 71) (v := .int .i64 lf) (lN 29 23) rfl rfl (by kernel_rfl) (fun _ _ _ h => h) (Or.inl ⟨by kernel_rfl, fun w' => by kernel_rfl⟩) rfl ?_
                    simp only [Act.put, List.setIfInBounds_toArray, List.set_cons_zero, List.set_cons_succ]
                    refine one_ (i := 23) (N := some 72) (lN 29 24) rfl rfl (by kernel_rfl) (by decide) (fun K hK => ?_)
                    refine goes_ Tryd.func35 (by kernel_rfl) rfl #[.int .i64 o, .int .i64 lf] (by kernel_rfl) rfl rfl (by first | rfl | (simp only [List.map_toArray, List.map_cons, List.map_nil]; rfl)) ?_
                    with_reducible refine (sprref1_Sub.calls o lf _ _ (SubR_is o lf)).mono ?_
                    rintro e wn23 ⟨rfl, hb⟩
                    refine ⟨.int .i64 (subI o lf), rfl, ?_⟩
                    have n0_ := Aside0.mk (HBF.out.trans (hb.mono HBF.out.size)); have n1_ := Aside0.mk (blk_below HA.out hb); have n2_ := Aside0.mk (blk_below HS.out hb); clear HBF HA HS hb; have HBF := n0_; have HA := n1_; have HS := n2_; clear n0_ n1_ n2_; clear hHeld
                    refine hK.out _ _ ⟨HA.out, HS.out⟩ (fun hHeld => ?_)
                    clear hK K
                    simp only [Act.put, List.setIfInBounds_toArray, List.set_cons_zero, List.set_cons_succ]
                    refine pure_ (i := 24) (N := some 73) (v := .bool false) (lN 29 25) rfl rfl (by kernel_rfl) (fun _ _ _ h => h) (Or.inl ⟨by kernel_rfl, fun w' => us_geq QG.out rfl rfl rfl⟩) rfl ?_
                    simp only [Act.put, List.setIfInBounds_toArray, List.set_cons_zero, List.set_cons_succ]
                    refine pure_ (i := 25) (N := some 74) (v := .bool false) (lN 29 26) rfl rfl (by kernel_rfl) (fun _ _ _ h => h) (Or.inl ⟨by kernel_rfl, fun w' => by kernel_rfl⟩) rfl ?_
                    simp only [Act.put, List.setIfInBounds_toArray, List.set_cons_zero, List.set_cons_succ]
                    refine pure_ (i := 26) (N := some 75) (v := .bool false) (lN 29 27) rfl rfl (by kernel_rfl) (fun _ _ _ h => h) (Or.inl ⟨by kernel_rfl, fun w' => by kernel_rfl⟩) rfl ?_
                    simp only [Act.put, List.setIfInBounds_toArray, List.set_cons_zero, List.set_cons_succ]
                    refine pure_ (i := 27) (N := some 76) (v := .bool false) (lN 29 28) rfl rfl (by kernel_rfl) (fun _ _ _ h => h) (Or.inl ⟨by kernel_rfl, fun w' => by kernel_rfl⟩) rfl ?_
                    simp only [Act.put, List.setIfInBounds_toArray, List.set_cons_zero, List.set_cons_succ]
                    refine pure_ (i := 28) (N := some 48) (v := .bool false) (lN 29 29) rfl rfl (by kernel_rfl) (fun _ _ _ h => h) (Or.inl ⟨by kernel_rfl, fun w' => by kernel_rfl⟩) rfl ?_
                    simp only [Act.put, List.setIfInBounds_toArray, List.set_cons_zero, List.set_cons_succ]
                    refine done_ (by kernel_rfl) ?_
                    go_wp2
                    go_ret
                    exact ⟨by rw [HO.out, HL.out, show decideI sh a s o lf = 3 by unfold decideI; rw [if_neg (by rw [Q1.out]; decide), if_neg (by rw [Q2.out]; decide), if_neg (by rw [Q3.out]; simp), if_neg (by have := Q4.out; omega), if_neg (by rw [QS.out]; decide), if_neg (by rw [Qh3.out]; decide), if_neg (by rw [Qb10.out]; decide), if_pos Qh2.out, if_neg (by have := QN.out; omega)]]; rfl, HBF.out⟩
      | true =>
        have ca11 := (blk_cell HA.out 11).trans (show a.cells[11]? = some (.bool true) by show some (Value.bool a.h0) = _; rw [q3])
        have Q3 := Aside0.mk q3
        clear q3
        have ca12 := (blk_cell HA.out 12).trans (show a.cells[12]? = some (.int .i64 a.n0) from rfl)
        by_cases qz : a.n0 < o
        · have q3 : decide (a.n0 < o) = true := decide_eq_true qz
          have QZ := Aside0.mk qz
          clear qz
          go_wp2
          go_ret
          exact ⟨by rw [HO.out, HL.out, show decideI sh a s o lf = 3 by unfold decideI; rw [if_neg (by rw [Q1.out]; decide), if_neg (by rw [Q2.out]; decide), if_pos ⟨Q3.out, by have := QZ.out; omega⟩]]; rfl, HBF.out⟩
        · have q3 : decide (a.n0 < o) = false := decide_eq_false qz
          have QZ := Aside0.mk qz
          clear qz
          have ca18 := (blk_cell HA.out 18).trans (show a.cells[18]? = some (.int .i64 a.n3) from rfl)
          by_cases q4 : addI o a.n3 < lf
          · have q5 : decide (addI o a.n3 < lf) = true := decide_eq_true q4
            have Q4 := Aside0.mk q4
            clear q4
            go_wp2_with (go_at_call 33; (with_reducible refine (sprref1_Add.calls o a.n3 _ _ (AddR_is o a.n3)).mono ?_); rintro e w5 ⟨rfl, hb⟩; have n0_ := Aside0.mk (HBF.out.trans (hb.mono HBF.out.size)); have n1_ := Aside0.mk (blk_below HA.out hb); have n2_ := Aside0.mk (blk_below HS.out hb); clear HBF HA HS hb; have HBF := n0_; have HA := n1_; have HS := n2_; clear n0_ n1_ n2_)
            go_ret
            exact ⟨by rw [HO.out, HL.out, show decideI sh a s o lf = 1 by unfold decideI; rw [if_neg (by rw [Q1.out]; decide), if_neg (by rw [Q2.out]; decide), if_neg (fun h => by have := QZ.out; have := h.2; omega), if_pos (by have := Q4.out; omega)]]; rfl, HBF.out⟩
          · have q5 : decide (addI o a.n3 < lf) = false := decide_eq_false q4
            have Q4 := Aside0.mk q4
            clear q4
            go_upto_region 7 with (go_at_call 33; (with_reducible refine (sprref1_Add.calls o a.n3 _ _ (AddR_is o a.n3)).mono ?_); rintro e w5 ⟨rfl, hb⟩; have n0_ := Aside0.mk (HBF.out.trans (hb.mono HBF.out.size)); have n1_ := Aside0.mk (blk_below HA.out hb); have n2_ := Aside0.mk (blk_below HS.out hb); clear HBF HA HS hb; have HBF := n0_; have HA := n1_; have HS := n2_; clear n0_ n1_ n2_)
            clear ca1 cs1 ca18 q5
            try clear ca11
            try clear ca12
            try clear q3
            cases qs : strictB sh s with
            | true =>
              have QS := Aside0.mk qs
              clear qs
              refine start_ (n := 29) (S := fun w' => w'.heap[B0]? = some (.cells a.cells 50 (0, 0)) ∧ w'.heap[B0 + 1]? = some (.cells s.cells 50 (0, 0))) (ds := []) (lN 29 0) (by kernel_rfl) rfl rfl ⟨blk_drew HA.out, blk_drew HS.out⟩ (fun hHeld => ?_)
              have n0_ := Aside0.mk (blk_drew HA.out); have n1_ := Aside0.mk (blk_drew HS.out); have n2_ := Aside0.mk (below_drew1 HBF.out); clear HA HS HBF; have HA := n0_; have HS := n1_; have HBF := n2_; clear n0_ n1_ n2_
              generalize World.drew _ = wd at HA HS HBF hHeld ⊢
              refine pure_ (i := 0) (N := some 49) (v := .bool sh) (lN 29 1) rfl rfl (by kernel_rfl) (fun _ _ _ h => h) (Or.inl ⟨by kernel_rfl, fun w' => by kernel_rfl⟩) rfl ?_
              simp only [Act.put, List.setIfInBounds_toArray, List.set_cons_zero, List.set_cons_succ]
              refine take_ (i := 1) (N := some 50) (v := .agg s.cells) (lN 29 2) rfl rfl (by kernel_rfl) (fun _ _ _ h => h) (Or.inl ⟨by kernel_rfl, fun w' hs => us_load 50 (run_loadVar_row w' (B0 + 1) 50 50 s.cells (0, 0) _ hs.2 hu35 rfl (rinfo.trans HSS.out)) rfl rfl⟩) hHeld rfl ?_
              simp only [Act.put, List.setIfInBounds_toArray, List.set_cons_zero, List.set_cons_succ]
              refine one_ (i := 2) (N := some 51) (lN 29 3) rfl rfl (by kernel_rfl) (by decide) (fun K hK => ?_)
              refine goes_ Tryd.func34 (by kernel_rfl) rfl #[.bool sh, .agg s.cells] (by kernel_rfl) rfl rfl (by first | rfl | (simp only [List.map_toArray, List.map_cons, List.map_nil]; rfl)) ?_
              with_reducible refine (sprref19_strict.own sh s _).mono ?_
              rintro e wn2 ⟨rfl, hb⟩
              refine ⟨.bool (strictB sh s), rfl, ?_⟩
              have n0_ := Aside0.mk (HBF.out.trans (hb.mono HBF.out.size)); have n1_ := Aside0.mk (blk_below HA.out hb); have n2_ := Aside0.mk (blk_below HS.out hb); clear HBF HA HS hb; have HBF := n0_; have HA := n1_; have HS := n2_; clear n0_ n1_ n2_; clear hHeld
              refine hK.out _ _ ⟨HA.out, HS.out⟩ (fun hHeld => ?_)
              clear hK K
              rw [QS.out]
              simp only [Act.put, List.setIfInBounds_toArray, List.set_cons_zero, List.set_cons_succ]
              refine pure_ (i := 3) (N := some 52) (v := .bool false) (lN 29 4) rfl rfl (by kernel_rfl) (fun _ _ _ h => h) (Or.inl ⟨by kernel_rfl, fun w' => by kernel_rfl⟩) rfl ?_
              simp only [Act.put, List.setIfInBounds_toArray, List.set_cons_zero, List.set_cons_succ]
              refine pure_ (i := 4) (N := some 53) (v := .bool false) (lN 29 5) rfl rfl (by kernel_rfl) (fun _ _ _ h => h) (Or.inl ⟨by kernel_rfl, fun w' => by kernel_rfl⟩) rfl ?_
              simp only [Act.put, List.setIfInBounds_toArray, List.set_cons_zero, List.set_cons_succ]
              refine pure_ (i := 5) (N := some 54) (v := undef) (lN 29 6) rfl rfl (by kernel_rfl) (fun _ _ _ h => h) (Or.inr ⟨by kernel_rfl, rfl⟩) rfl ?_
              simp only [Act.put, List.setIfInBounds_toArray, List.set_cons_zero, List.set_cons_succ]
              refine pure_ (i := 6) (N := some 55) (v := undef) (lN 29 7) rfl rfl (by kernel_rfl) (fun _ _ _ h => h) (Or.inr ⟨by kernel_rfl, rfl⟩) rfl ?_
              simp only [Act.put, List.setIfInBounds_toArray, List.set_cons_zero, List.set_cons_succ]
              refine pure_ (i := 7) (N := some 56) (v := undef) (lN 29 8) rfl rfl (by kernel_rfl) (fun _ _ _ h => h) (Or.inr ⟨by kernel_rfl, rfl⟩) rfl ?_
              simp only [Act.put, List.setIfInBounds_toArray, List.set_cons_zero, List.set_cons_succ]
              refine pure_ (i := 8) (N := some 57) (v := undef) (lN 29 9) rfl rfl (by kernel_rfl) (fun _ _ _ h => h) (Or.inr ⟨by kernel_rfl, rfl⟩) rfl ?_
              simp only [Act.put, List.setIfInBounds_toArray, List.set_cons_zero, List.set_cons_succ]
              refine pure_ (i := 9) (N := some 58) (v := .bool false) (lN 29 10) rfl rfl (by kernel_rfl) (fun _ _ _ h => h) (Or.inl ⟨by kernel_rfl, fun w' => by kernel_rfl⟩) rfl ?_
              simp only [Act.put, List.setIfInBounds_toArray, List.set_cons_zero, List.set_cons_succ]
              refine pure_ (i := 10) (N := some 59) (v := .bool false) (lN 29 11) rfl rfl (by kernel_rfl) (fun _ _ _ h => h) (Or.inl ⟨by kernel_rfl, fun w' => by kernel_rfl⟩) rfl ?_
              simp only [Act.put, List.setIfInBounds_toArray, List.set_cons_zero, List.set_cons_succ]
              refine pure_ (i := 11) (N := some 60) (v := undef) (lN 29 12) rfl rfl (by kernel_rfl) (fun _ _ _ h => h) (Or.inr ⟨by kernel_rfl, rfl⟩) rfl ?_
              simp only [Act.put, List.setIfInBounds_toArray, List.set_cons_zero, List.set_cons_succ]
              refine pure_ (i := 12) (N := some 61) (v := undef) (lN 29 13) rfl rfl (by kernel_rfl) (fun _ _ _ h => h) (Or.inr ⟨by kernel_rfl, rfl⟩) rfl ?_
              simp only [Act.put, List.setIfInBounds_toArray, List.set_cons_zero, List.set_cons_succ]
              refine pure_ (i := 13) (N := some 62) (v := undef) (lN 29 14) rfl rfl (by kernel_rfl) (fun _ _ _ h => h) (Or.inr ⟨by kernel_rfl, rfl⟩) rfl ?_
              simp only [Act.put, List.setIfInBounds_toArray, List.set_cons_zero, List.set_cons_succ]
              refine pure_ (i := 14) (N := some 63) (v := undef) (lN 29 15) rfl rfl (by kernel_rfl) (fun _ _ _ h => h) (Or.inr ⟨by kernel_rfl, rfl⟩) rfl ?_
              simp only [Act.put, List.setIfInBounds_toArray, List.set_cons_zero, List.set_cons_succ]
              refine pure_ (i := 15) (N := some 64) (v := undef) (lN 29 16) rfl rfl (by kernel_rfl) (fun _ _ _ h => h) (Or.inr ⟨by kernel_rfl, rfl⟩) rfl ?_
              simp only [Act.put, List.setIfInBounds_toArray, List.set_cons_zero, List.set_cons_succ]
              refine pure_ (i := 16) (N := some 65) (v := undef) (lN 29 17) rfl rfl (by kernel_rfl) (fun _ _ _ h => h) (Or.inr ⟨by kernel_rfl, rfl⟩) rfl ?_
              simp only [Act.put, List.setIfInBounds_toArray, List.set_cons_zero, List.set_cons_succ]
              refine pure_ (i := 17) (N := some 66) (v := undef) (lN 29 18) rfl rfl (by kernel_rfl) (fun _ _ _ h => h) (Or.inr ⟨by kernel_rfl, rfl⟩) rfl ?_
              simp only [Act.put, List.setIfInBounds_toArray, List.set_cons_zero, List.set_cons_succ]
              refine pure_ (i := 18) (N := some 67) (v := undef) (lN 29 19) rfl rfl (by kernel_rfl) (fun _ _ _ h => h) (Or.inr ⟨by kernel_rfl, rfl⟩) rfl ?_
              simp only [Act.put, List.setIfInBounds_toArray, List.set_cons_zero, List.set_cons_succ]
              refine pure_ (i := 19) (N := some 68) (v := undef) (lN 29 20) rfl rfl (by kernel_rfl) (fun _ _ _ h => h) (Or.inr ⟨by kernel_rfl, rfl⟩) rfl ?_
              simp only [Act.put, List.setIfInBounds_toArray, List.set_cons_zero, List.set_cons_succ]
              refine pure_ (i := 20) (N := some 69) (v := undef) (lN 29 21) rfl rfl (by kernel_rfl) (fun _ _ _ h => h) (Or.inr ⟨by kernel_rfl, rfl⟩) rfl ?_
              simp only [Act.put, List.setIfInBounds_toArray, List.set_cons_zero, List.set_cons_succ]
              refine pure_ (i := 21) (N := some 70) (v := undef) (lN 29 22) rfl rfl (by kernel_rfl) (fun _ _ _ h => h) (Or.inr ⟨by kernel_rfl, rfl⟩) rfl ?_
              simp only [Act.put, List.setIfInBounds_toArray, List.set_cons_zero, List.set_cons_succ]
              refine pure_ (i := 22) (N := some 71) (v := undef) (lN 29 23) rfl rfl (by kernel_rfl) (fun _ _ _ h => h) (Or.inr ⟨by kernel_rfl, rfl⟩) rfl ?_
              simp only [Act.put, List.setIfInBounds_toArray, List.set_cons_zero, List.set_cons_succ]
              refine pure_ (i := 23) (N := some 72) (v := undef) (lN 29 24) rfl rfl (by kernel_rfl) (fun _ _ _ h => h) (Or.inr ⟨by kernel_rfl, rfl⟩) rfl ?_
              simp only [Act.put, List.setIfInBounds_toArray, List.set_cons_zero, List.set_cons_succ]
              refine pure_ (i := 24) (N := some 73) (v := undef) (lN 29 25) rfl rfl (by kernel_rfl) (fun _ _ _ h => h) (Or.inr ⟨by kernel_rfl, rfl⟩) rfl ?_
              simp only [Act.put, List.setIfInBounds_toArray, List.set_cons_zero, List.set_cons_succ]
              refine pure_ (i := 25) (N := some 74) (v := undef) (lN 29 26) rfl rfl (by kernel_rfl) (fun _ _ _ h => h) (Or.inr ⟨by kernel_rfl, rfl⟩) rfl ?_
              simp only [Act.put, List.setIfInBounds_toArray, List.set_cons_zero, List.set_cons_succ]
              refine pure_ (i := 26) (N := some 75) (v := undef) (lN 29 27) rfl rfl (by kernel_rfl) (fun _ _ _ h => h) (Or.inr ⟨by kernel_rfl, rfl⟩) rfl ?_
              simp only [Act.put, List.setIfInBounds_toArray, List.set_cons_zero, List.set_cons_succ]
              refine pure_ (i := 27) (N := some 76) (v := .bool false) (lN 29 28) rfl rfl (by kernel_rfl) (fun _ _ _ h => h) (Or.inl ⟨by kernel_rfl, fun w' => by kernel_rfl⟩) rfl ?_
              simp only [Act.put, List.setIfInBounds_toArray, List.set_cons_zero, List.set_cons_succ]
              refine pure_ (i := 28) (N := some 48) (v := .bool false) (lN 29 29) rfl rfl (by kernel_rfl) (fun _ _ _ h => h) (Or.inl ⟨by kernel_rfl, fun w' => by kernel_rfl⟩) rfl ?_
              simp only [Act.put, List.setIfInBounds_toArray, List.set_cons_zero, List.set_cons_succ]
              refine done_ (by kernel_rfl) ?_
              go_wp2
              go_ret
              exact ⟨by rw [HO.out, HL.out, show decideI sh a s o lf = 3 by unfold decideI; rw [if_neg (by rw [Q1.out]; decide), if_neg (by rw [Q2.out]; decide), if_neg (fun h => by have := QZ.out; have := h.2; omega), if_neg (by have := Q4.out; omega), if_pos QS.out]]; rfl, HBF.out⟩
            | false =>
              have QS := Aside0.mk qs
              clear qs
              cases qh : a.h3 with
              | true =>
                have Qh3 := Aside0.mk qh
                clear qh
                refine start_ (n := 29) (S := fun w' => w'.heap[B0]? = some (.cells a.cells 50 (0, 0)) ∧ w'.heap[B0 + 1]? = some (.cells s.cells 50 (0, 0))) (ds := []) (lN 29 0) (by kernel_rfl) rfl rfl ⟨blk_drew HA.out, blk_drew HS.out⟩ (fun hHeld => ?_)
                have n0_ := Aside0.mk (blk_drew HA.out); have n1_ := Aside0.mk (blk_drew HS.out); have n2_ := Aside0.mk (below_drew1 HBF.out); clear HA HS HBF; have HA := n0_; have HS := n1_; have HBF := n2_; clear n0_ n1_ n2_
                generalize World.drew _ = wd at HA HS HBF hHeld ⊢
                refine pure_ (i := 0) (N := some 49) (v := .bool sh) (lN 29 1) rfl rfl (by kernel_rfl) (fun _ _ _ h => h) (Or.inl ⟨by kernel_rfl, fun w' => by kernel_rfl⟩) rfl ?_
                simp only [Act.put, List.setIfInBounds_toArray, List.set_cons_zero, List.set_cons_succ]
                refine take_ (i := 1) (N := some 50) (v := .agg s.cells) (lN 29 2) rfl rfl (by kernel_rfl) (fun _ _ _ h => h) (Or.inl ⟨by kernel_rfl, fun w' hs => us_load 50 (run_loadVar_row w' (B0 + 1) 50 50 s.cells (0, 0) _ hs.2 hu35 rfl (rinfo.trans HSS.out)) rfl rfl⟩) hHeld rfl ?_
                simp only [Act.put, List.setIfInBounds_toArray, List.set_cons_zero, List.set_cons_succ]
                refine one_ (i := 2) (N := some 51) (lN 29 3) rfl rfl (by kernel_rfl) (by decide) (fun K hK => ?_)
                refine goes_ Tryd.func34 (by kernel_rfl) rfl #[.bool sh, .agg s.cells] (by kernel_rfl) rfl rfl (by first | rfl | (simp only [List.map_toArray, List.map_cons, List.map_nil]; rfl)) ?_
                with_reducible refine (sprref19_strict.own sh s _).mono ?_
                rintro e wn2 ⟨rfl, hb⟩
                refine ⟨.bool (strictB sh s), rfl, ?_⟩
                have n0_ := Aside0.mk (HBF.out.trans (hb.mono HBF.out.size)); have n1_ := Aside0.mk (blk_below HA.out hb); have n2_ := Aside0.mk (blk_below HS.out hb); clear HBF HA HS hb; have HBF := n0_; have HA := n1_; have HS := n2_; clear n0_ n1_ n2_; clear hHeld
                refine hK.out _ _ ⟨HA.out, HS.out⟩ (fun hHeld => ?_)
                clear hK K
                rw [QS.out]
                simp only [Act.put, List.setIfInBounds_toArray, List.set_cons_zero, List.set_cons_succ]
                refine pure_ (i := 3) (N := some 52) (v := .bool true) (lN 29 4) rfl rfl (by kernel_rfl) (fun _ _ _ h => h) (Or.inl ⟨by kernel_rfl, fun w' => by kernel_rfl⟩) rfl ?_
                simp only [Act.put, List.setIfInBounds_toArray, List.set_cons_zero, List.set_cons_succ]
                refine pure_ (i := 4) (N := some 53) (v := .bool true) (lN 29 5) rfl rfl (by kernel_rfl) (fun _ _ _ h => h) (Or.inl ⟨by kernel_rfl, fun w' => by kernel_rfl⟩) rfl ?_
                simp only [Act.put, List.setIfInBounds_toArray, List.set_cons_zero, List.set_cons_succ]
                refine pure_ (i := 5) (N := some 54) (v := .pointer (some ⟨B0, 17, none⟩)) (lN 29 6) rfl rfl (by kernel_rfl) (fun _ _ _ h => h) (Or.inl ⟨by kernel_rfl, fun w' => by kernel_rfl⟩) rfl ?_
                simp only [Act.put, List.setIfInBounds_toArray, List.set_cons_zero, List.set_cons_succ]
                refine pure_ (i := 6) (N := some 55) (v := .pointer (some ⟨B0, 17, none⟩)) (lN 29 7) rfl rfl (by kernel_rfl) (fun _ _ _ h => h) (Or.inl ⟨by kernel_rfl, fun w' => by kernel_rfl⟩) rfl ?_
                simp only [Act.put, List.setIfInBounds_toArray, List.set_cons_zero, List.set_cons_succ]
                refine take_ (i := 7) (N := some 56) (v := .bool true) (lN 29 8) rfl rfl (by kernel_rfl) (fun _ _ _ h => h) (Or.inl ⟨by kernel_rfl, fun w' hs => us_load 4 (us_bool ((blk_cell hs.1 17).trans (show a.cells[17]? = some (.bool true) by show some (Value.bool a.h3) = _; rw [Qh3.out]))) rfl rfl⟩) hHeld rfl ?_
                simp only [Act.put, List.setIfInBounds_toArray, List.set_cons_zero, List.set_cons_succ]
                refine pure_ (i := 8) (N := some 57) (v := .bool false) (lN 29 9) rfl rfl (by kernel_rfl) (fun _ _ _ h => h) (Or.inl ⟨by kernel_rfl, fun w' => by kernel_rfl⟩) rfl ?_
                simp only [Act.put, List.setIfInBounds_toArray, List.set_cons_zero, List.set_cons_succ]
                refine pure_ (i := 9) (N := some 58) (v := .bool false) (lN 29 10) rfl rfl (by kernel_rfl) (fun _ _ _ h => h) (Or.inl ⟨by kernel_rfl, fun w' => by kernel_rfl⟩) rfl ?_
                simp only [Act.put, List.setIfInBounds_toArray, List.set_cons_zero, List.set_cons_succ]
                refine pure_ (i := 10) (N := some 59) (v := .bool false) (lN 29 11) rfl rfl (by kernel_rfl) (fun _ _ _ h => h) (Or.inl ⟨by kernel_rfl, fun w' => by kernel_rfl⟩) rfl ?_
                simp only [Act.put, List.setIfInBounds_toArray, List.set_cons_zero, List.set_cons_succ]
                refine pure_ (i := 11) (N := some 60) (v := undef) (lN 29 12) rfl rfl (by kernel_rfl) (fun _ _ _ h => h) (Or.inr ⟨by kernel_rfl, rfl⟩) rfl ?_
                simp only [Act.put, List.setIfInBounds_toArray, List.set_cons_zero, List.set_cons_succ]
                refine pure_ (i := 12) (N := some 61) (v := undef) (lN 29 13) rfl rfl (by kernel_rfl) (fun _ _ _ h => h) (Or.inr ⟨by kernel_rfl, rfl⟩) rfl ?_
                simp only [Act.put, List.setIfInBounds_toArray, List.set_cons_zero, List.set_cons_succ]
                refine pure_ (i := 13) (N := some 62) (v := undef) (lN 29 14) rfl rfl (by kernel_rfl) (fun _ _ _ h => h) (Or.inr ⟨by kernel_rfl, rfl⟩) rfl ?_
                simp only [Act.put, List.setIfInBounds_toArray, List.set_cons_zero, List.set_cons_succ]
                refine pure_ (i := 14) (N := some 63) (v := undef) (lN 29 15) rfl rfl (by kernel_rfl) (fun _ _ _ h => h) (Or.inr ⟨by kernel_rfl, rfl⟩) rfl ?_
                simp only [Act.put, List.setIfInBounds_toArray, List.set_cons_zero, List.set_cons_succ]
                refine pure_ (i := 15) (N := some 64) (v := undef) (lN 29 16) rfl rfl (by kernel_rfl) (fun _ _ _ h => h) (Or.inr ⟨by kernel_rfl, rfl⟩) rfl ?_
                simp only [Act.put, List.setIfInBounds_toArray, List.set_cons_zero, List.set_cons_succ]
                refine pure_ (i := 16) (N := some 65) (v := undef) (lN 29 17) rfl rfl (by kernel_rfl) (fun _ _ _ h => h) (Or.inr ⟨by kernel_rfl, rfl⟩) rfl ?_
                simp only [Act.put, List.setIfInBounds_toArray, List.set_cons_zero, List.set_cons_succ]
                refine pure_ (i := 17) (N := some 66) (v := undef) (lN 29 18) rfl rfl (by kernel_rfl) (fun _ _ _ h => h) (Or.inr ⟨by kernel_rfl, rfl⟩) rfl ?_
                simp only [Act.put, List.setIfInBounds_toArray, List.set_cons_zero, List.set_cons_succ]
                refine pure_ (i := 18) (N := some 67) (v := undef) (lN 29 19) rfl rfl (by kernel_rfl) (fun _ _ _ h => h) (Or.inr ⟨by kernel_rfl, rfl⟩) rfl ?_
                simp only [Act.put, List.setIfInBounds_toArray, List.set_cons_zero, List.set_cons_succ]
                refine pure_ (i := 19) (N := some 68) (v := undef) (lN 29 20) rfl rfl (by kernel_rfl) (fun _ _ _ h => h) (Or.inr ⟨by kernel_rfl, rfl⟩) rfl ?_
                simp only [Act.put, List.setIfInBounds_toArray, List.set_cons_zero, List.set_cons_succ]
                refine pure_ (i := 20) (N := some 69) (v := undef) (lN 29 21) rfl rfl (by kernel_rfl) (fun _ _ _ h => h) (Or.inr ⟨by kernel_rfl, rfl⟩) rfl ?_
                simp only [Act.put, List.setIfInBounds_toArray, List.set_cons_zero, List.set_cons_succ]
                refine pure_ (i := 21) (N := some 70) (v := undef) (lN 29 22) rfl rfl (by kernel_rfl) (fun _ _ _ h => h) (Or.inr ⟨by kernel_rfl, rfl⟩) rfl ?_
                simp only [Act.put, List.setIfInBounds_toArray, List.set_cons_zero, List.set_cons_succ]
                refine pure_ (i := 22) (N := some 71) (v := undef) (lN 29 23) rfl rfl (by kernel_rfl) (fun _ _ _ h => h) (Or.inr ⟨by kernel_rfl, rfl⟩) rfl ?_
                simp only [Act.put, List.setIfInBounds_toArray, List.set_cons_zero, List.set_cons_succ]
                refine pure_ (i := 23) (N := some 72) (v := undef) (lN 29 24) rfl rfl (by kernel_rfl) (fun _ _ _ h => h) (Or.inr ⟨by kernel_rfl, rfl⟩) rfl ?_
                simp only [Act.put, List.setIfInBounds_toArray, List.set_cons_zero, List.set_cons_succ]
                refine pure_ (i := 24) (N := some 73) (v := undef) (lN 29 25) rfl rfl (by kernel_rfl) (fun _ _ _ h => h) (Or.inr ⟨by kernel_rfl, rfl⟩) rfl ?_
                simp only [Act.put, List.setIfInBounds_toArray, List.set_cons_zero, List.set_cons_succ]
                refine pure_ (i := 25) (N := some 74) (v := undef) (lN 29 26) rfl rfl (by kernel_rfl) (fun _ _ _ h => h) (Or.inr ⟨by kernel_rfl, rfl⟩) rfl ?_
                simp only [Act.put, List.setIfInBounds_toArray, List.set_cons_zero, List.set_cons_succ]
                refine pure_ (i := 26) (N := some 75) (v := undef) (lN 29 27) rfl rfl (by kernel_rfl) (fun _ _ _ h => h) (Or.inr ⟨by kernel_rfl, rfl⟩) rfl ?_
                simp only [Act.put, List.setIfInBounds_toArray, List.set_cons_zero, List.set_cons_succ]
                refine pure_ (i := 27) (N := some 76) (v := .bool false) (lN 29 28) rfl rfl (by kernel_rfl) (fun _ _ _ h => h) (Or.inl ⟨by kernel_rfl, fun w' => by kernel_rfl⟩) rfl ?_
                simp only [Act.put, List.setIfInBounds_toArray, List.set_cons_zero, List.set_cons_succ]
                refine pure_ (i := 28) (N := some 48) (v := .bool false) (lN 29 29) rfl rfl (by kernel_rfl) (fun _ _ _ h => h) (Or.inl ⟨by kernel_rfl, fun w' => by kernel_rfl⟩) rfl ?_
                simp only [Act.put, List.setIfInBounds_toArray, List.set_cons_zero, List.set_cons_succ]
                refine done_ (by kernel_rfl) ?_
                go_wp2
                go_ret
                exact ⟨by rw [HO.out, HL.out, show decideI sh a s o lf = 3 by unfold decideI; rw [if_neg (by rw [Q1.out]; decide), if_neg (by rw [Q2.out]; decide), if_neg (fun h => by have := QZ.out; have := h.2; omega), if_neg (by have := Q4.out; omega), if_neg (by rw [QS.out]; decide), if_pos Qh3.out]]; rfl, HBF.out⟩
              | false =>
                have Qh3 := Aside0.mk qh
                clear qh
                cases qb : a.b10 with
                | true =>
                  have Qb10 := Aside0.mk qb
                  clear qb
                  refine start_ (n := 29) (S := fun w' => w'.heap[B0]? = some (.cells a.cells 50 (0, 0)) ∧ w'.heap[B0 + 1]? = some (.cells s.cells 50 (0, 0))) (ds := []) (lN 29 0) (by kernel_rfl) rfl rfl ⟨blk_drew HA.out, blk_drew HS.out⟩ (fun hHeld => ?_)
                  have n0_ := Aside0.mk (blk_drew HA.out); have n1_ := Aside0.mk (blk_drew HS.out); have n2_ := Aside0.mk (below_drew1 HBF.out); clear HA HS HBF; have HA := n0_; have HS := n1_; have HBF := n2_; clear n0_ n1_ n2_
                  generalize World.drew _ = wd at HA HS HBF hHeld ⊢
                  refine pure_ (i := 0) (N := some 49) (v := .bool sh) (lN 29 1) rfl rfl (by kernel_rfl) (fun _ _ _ h => h) (Or.inl ⟨by kernel_rfl, fun w' => by kernel_rfl⟩) rfl ?_
                  simp only [Act.put, List.setIfInBounds_toArray, List.set_cons_zero, List.set_cons_succ]
                  refine take_ (i := 1) (N := some 50) (v := .agg s.cells) (lN 29 2) rfl rfl (by kernel_rfl) (fun _ _ _ h => h) (Or.inl ⟨by kernel_rfl, fun w' hs => us_load 50 (run_loadVar_row w' (B0 + 1) 50 50 s.cells (0, 0) _ hs.2 hu35 rfl (rinfo.trans HSS.out)) rfl rfl⟩) hHeld rfl ?_
                  simp only [Act.put, List.setIfInBounds_toArray, List.set_cons_zero, List.set_cons_succ]
                  refine one_ (i := 2) (N := some 51) (lN 29 3) rfl rfl (by kernel_rfl) (by decide) (fun K hK => ?_)
                  refine goes_ Tryd.func34 (by kernel_rfl) rfl #[.bool sh, .agg s.cells] (by kernel_rfl) rfl rfl (by first | rfl | (simp only [List.map_toArray, List.map_cons, List.map_nil]; rfl)) ?_
                  with_reducible refine (sprref19_strict.own sh s _).mono ?_
                  rintro e wn2 ⟨rfl, hb⟩
                  refine ⟨.bool (strictB sh s), rfl, ?_⟩
                  have n0_ := Aside0.mk (HBF.out.trans (hb.mono HBF.out.size)); have n1_ := Aside0.mk (blk_below HA.out hb); have n2_ := Aside0.mk (blk_below HS.out hb); clear HBF HA HS hb; have HBF := n0_; have HA := n1_; have HS := n2_; clear n0_ n1_ n2_; clear hHeld
                  refine hK.out _ _ ⟨HA.out, HS.out⟩ (fun hHeld => ?_)
                  clear hK K
                  rw [QS.out]
                  simp only [Act.put, List.setIfInBounds_toArray, List.set_cons_zero, List.set_cons_succ]
                  refine pure_ (i := 3) (N := some 52) (v := .bool true) (lN 29 4) rfl rfl (by kernel_rfl) (fun _ _ _ h => h) (Or.inl ⟨by kernel_rfl, fun w' => by kernel_rfl⟩) rfl ?_
                  simp only [Act.put, List.setIfInBounds_toArray, List.set_cons_zero, List.set_cons_succ]
                  refine pure_ (i := 4) (N := some 53) (v := .bool true) (lN 29 5) rfl rfl (by kernel_rfl) (fun _ _ _ h => h) (Or.inl ⟨by kernel_rfl, fun w' => by kernel_rfl⟩) rfl ?_
                  simp only [Act.put, List.setIfInBounds_toArray, List.set_cons_zero, List.set_cons_succ]
                  refine pure_ (i := 5) (N := some 54) (v := .pointer (some ⟨B0, 17, none⟩)) (lN 29 6) rfl rfl (by kernel_rfl) (fun _ _ _ h => h) (Or.inl ⟨by kernel_rfl, fun w' => by kernel_rfl⟩) rfl ?_
                  simp only [Act.put, List.setIfInBounds_toArray, List.set_cons_zero, List.set_cons_succ]
                  refine pure_ (i := 6) (N := some 55) (v := .pointer (some ⟨B0, 17, none⟩)) (lN 29 7) rfl rfl (by kernel_rfl) (fun _ _ _ h => h) (Or.inl ⟨by kernel_rfl, fun w' => by kernel_rfl⟩) rfl ?_
                  simp only [Act.put, List.setIfInBounds_toArray, List.set_cons_zero, List.set_cons_succ]
                  refine take_ (i := 7) (N := some 56) (v := .bool false) (lN 29 8) rfl rfl (by kernel_rfl) (fun _ _ _ h => h) (Or.inl ⟨by kernel_rfl, fun w' hs => us_load 4 (us_bool ((blk_cell hs.1 17).trans (show a.cells[17]? = some (.bool false) by show some (Value.bool a.h3) = _; rw [Qh3.out]))) rfl rfl⟩) hHeld rfl ?_
                  simp only [Act.put, List.setIfInBounds_toArray, List.set_cons_zero, List.set_cons_succ]
                  refine pure_ (i := 8) (N := some 57) (v := .bool true) (lN 29 9) rfl rfl (by kernel_rfl) (fun _ _ _ h => h) (Or.inl ⟨by kernel_rfl, fun w' => by kernel_rfl⟩) rfl ?_
                  simp only [Act.put, List.setIfInBounds_toArray, List.set_cons_zero, List.set_cons_succ]
                  refine pure_ (i := 9) (N := some 58) (v := .bool true) (lN 29 10) rfl rfl (by kernel_rfl) (fun _ _ _ h => h) (Or.inl ⟨by kernel_rfl, fun w' => by kernel_rfl⟩) rfl ?_
                  simp only [Act.put, List.setIfInBounds_toArray, List.set_cons_zero, List.set_cons_succ]
                  refine pure_ (i := 10) (N := some 59) (v := .bool true) (lN 29 11) rfl rfl (by kernel_rfl) (fun _ _ _ h => h) (Or.inl ⟨by kernel_rfl, fun w' => by kernel_rfl⟩) rfl ?_
                  simp only [Act.put, List.setIfInBounds_toArray, List.set_cons_zero, List.set_cons_succ]
                  refine pure_ (i := 11) (N := some 60) (v := .pointer (some ⟨B0, 10, none⟩)) (lN 29 12) rfl rfl (by kernel_rfl) (fun _ _ _ h => h) (Or.inl ⟨by kernel_rfl, fun w' => by kernel_rfl⟩) rfl ?_
                  simp only [Act.put, List.setIfInBounds_toArray, List.set_cons_zero, List.set_cons_succ]
                  refine take_ (i := 12) (N := some 61) (v := .bool true) (lN 29 13) rfl rfl (by kernel_rfl) (fun _ _ _ h => h) (Or.inl ⟨by kernel_rfl, fun w' hs => us_load 4 (us_bool ((blk_cell hs.1 10).trans (show a.cells[10]? = some (.bool true) by show some (Value.bool a.b10) = _; rw [Qb10.out]))) rfl rfl⟩) hHeld rfl ?_
                  simp only [Act.put, List.setIfInBounds_toArray, List.set_cons_zero, List.set_cons_succ]
                  refine pure_ (i := 13) (N := some 62) (v := .bool true) (lN 29 14) rfl rfl (by kernel_rfl) (fun _ _ _ h => h) (Or.inl ⟨by kernel_rfl, fun w' => by kernel_rfl⟩) rfl ?_
                  simp only [Act.put, List.setIfInBounds_toArray, List.set_cons_zero, List.set_cons_succ]
                  refine pure_ (i := 14) (N := some 63) (v := undef) (lN 29 15) rfl rfl (by kernel_rfl) (fun _ _ _ h => h) (Or.inr ⟨by kernel_rfl, rfl⟩) rfl ?_
                  simp only [Act.put, List.setIfInBounds_toArray, List.set_cons_zero, List.set_cons_succ]
                  refine pure_ (i := 15) (N := some 64) (v := undef) (lN 29 16) rfl rfl (by kernel_rfl) (fun _ _ _ h => h) (Or.inr ⟨by kernel_rfl, rfl⟩) rfl ?_
                  simp only [Act.put, List.setIfInBounds_toArray, List.set_cons_zero, List.set_cons_succ]
                  refine pure_ (i := 16) (N := some 65) (v := undef) (lN 29 17) rfl rfl (by kernel_rfl) (fun _ _ _ h => h) (Or.inr ⟨by kernel_rfl, rfl⟩) rfl ?_
                  simp only [Act.put, List.setIfInBounds_toArray, List.set_cons_zero, List.set_cons_succ]
                  refine pure_ (i := 17) (N := some 66) (v := undef) (lN 29 18) rfl rfl (by kernel_rfl) (fun _ _ _ h => h) (Or.inr ⟨by kernel_rfl, rfl⟩) rfl ?_
                  simp only [Act.put, List.setIfInBounds_toArray, List.set_cons_zero, List.set_cons_succ]
                  refine pure_ (i := 18) (N := some 67) (v := undef) (lN 29 19) rfl rfl (by kernel_rfl) (fun _ _ _ h => h) (Or.inr ⟨by kernel_rfl, rfl⟩) rfl ?_
                  simp only [Act.put, List.setIfInBounds_toArray, List.set_cons_zero, List.set_cons_succ]
                  refine pure_ (i := 19) (N := some 68) (v := undef) (lN 29 20) rfl rfl (by kernel_rfl) (fun _ _ _ h => h) (Or.inr ⟨by kernel_rfl, rfl⟩) rfl ?_
                  simp only [Act.put, List.setIfInBounds_toArray, List.set_cons_zero, List.set_cons_succ]
                  refine pure_ (i := 20) (N := some 69) (v := undef) (lN 29 21) rfl rfl (by kernel_rfl) (fun _ _ _ h => h) (Or.inr ⟨by kernel_rfl, rfl⟩) rfl ?_
                  simp only [Act.put, List.setIfInBounds_toArray, List.set_cons_zero, List.set_cons_succ]
                  refine pure_ (i := 21) (N := some 70) (v := undef) (lN 29 22) rfl rfl (by kernel_rfl) (fun _ _ _ h => h) (Or.inr ⟨by kernel_rfl, rfl⟩) rfl ?_
                  simp only [Act.put, List.setIfInBounds_toArray, List.set_cons_zero, List.set_cons_succ]
                  refine pure_ (i := 22) (N := some 71) (v := undef) (lN 29 23) rfl rfl (by kernel_rfl) (fun _ _ _ h => h) (Or.inr ⟨by kernel_rfl, rfl⟩) rfl ?_
                  simp only [Act.put, List.setIfInBounds_toArray, List.set_cons_zero, List.set_cons_succ]
                  refine pure_ (i := 23) (N := some 72) (v := undef) (lN 29 24) rfl rfl (by kernel_rfl) (fun _ _ _ h => h) (Or.inr ⟨by kernel_rfl, rfl⟩) rfl ?_
                  simp only [Act.put, List.setIfInBounds_toArray, List.set_cons_zero, List.set_cons_succ]
                  refine pure_ (i := 24) (N := some 73) (v := undef) (lN 29 25) rfl rfl (by kernel_rfl) (fun _ _ _ h => h) (Or.inr ⟨by kernel_rfl, rfl⟩) rfl ?_
                  simp only [Act.put, List.setIfInBounds_toArray, List.set_cons_zero, List.set_cons_succ]
                  refine pure_ (i := 25) (N := some 74) (v := undef) (lN 29 26) rfl rfl (by kernel_rfl) (fun _ _ _ h => h) (Or.inr ⟨by kernel_rfl, rfl⟩) rfl ?_
                  simp only [Act.put, List.setIfInBounds_toArray, List.set_cons_zero, List.set_cons_succ]
                  refine pure_ (i := 26) (N := some 75) (v := .bool true) (lN 29 27) rfl rfl (by kernel_rfl) (fun _ _ _ h => h) (Or.inl ⟨by kernel_rfl, fun w' => by kernel_rfl⟩) rfl ?_
                  simp only [Act.put, List.setIfInBounds_toArray, List.set_cons_zero, List.set_cons_succ]
                  refine pure_ (i := 27) (N := some 76) (v := .bool true) (lN 29 28) rfl rfl (by kernel_rfl) (fun _ _ _ h => h) (Or.inl ⟨by kernel_rfl, fun w' => by kernel_rfl⟩) rfl ?_
                  simp only [Act.put, List.setIfInBounds_toArray, List.set_cons_zero, List.set_cons_succ]
                  refine pure_ (i := 28) (N := some 48) (v := .bool true) (lN 29 29) rfl rfl (by kernel_rfl) (fun _ _ _ h => h) (Or.inl ⟨by kernel_rfl, fun w' => by kernel_rfl⟩) rfl ?_
                  simp only [Act.put, List.setIfInBounds_toArray, List.set_cons_zero, List.set_cons_succ]
                  refine done_ (by kernel_rfl) ?_
                  go_wp2
                  go_ret
                  exact ⟨by rw [HO.out, HL.out, show decideI sh a s o lf = 2 by unfold decideI; rw [if_neg (by rw [Q1.out]; decide), if_neg (by rw [Q2.out]; decide), if_neg (fun h => by have := QZ.out; have := h.2; omega), if_neg (by have := Q4.out; omega), if_neg (by rw [QS.out]; decide), if_neg (by rw [Qh3.out]; decide), if_pos Qb10.out]]; rfl, HBF.out⟩
                | false =>
                  have Qb10 := Aside0.mk qb
                  clear qb
                  cases qg : a.h2 with
                  | false =>
                    have Qh2 := Aside0.mk qg
                    clear qg
                    refine start_ (n := 29) (S := fun w' => w'.heap[B0]? = some (.cells a.cells 50 (0, 0)) ∧ w'.heap[B0 + 1]? = some (.cells s.cells 50 (0, 0))) (ds := []) (lN 29 0) (by kernel_rfl) rfl rfl ⟨blk_drew HA.out, blk_drew HS.out⟩ (fun hHeld => ?_)
                    have n0_ := Aside0.mk (blk_drew HA.out); have n1_ := Aside0.mk (blk_drew HS.out); have n2_ := Aside0.mk (below_drew1 HBF.out); clear HA HS HBF; have HA := n0_; have HS := n1_; have HBF := n2_; clear n0_ n1_ n2_
                    generalize World.drew _ = wd at HA HS HBF hHeld ⊢
                    refine pure_ (i := 0) (N := some 49) (v := .bool sh) (lN 29 1) rfl rfl (by kernel_rfl) (fun _ _ _ h => h) (Or.inl ⟨by kernel_rfl, fun w' => by kernel_rfl⟩) rfl ?_
                    simp only [Act.put, List.setIfInBounds_toArray, List.set_cons_zero, List.set_cons_succ]
                    refine take_ (i := 1) (N := some 50) (v := .agg s.cells) (lN 29 2) rfl rfl (by kernel_rfl) (fun _ _ _ h => h) (Or.inl ⟨by kernel_rfl, fun w' hs => us_load 50 (run_loadVar_row w' (B0 + 1) 50 50 s.cells (0, 0) _ hs.2 hu35 rfl (rinfo.trans HSS.out)) rfl rfl⟩) hHeld rfl ?_
                    simp only [Act.put, List.setIfInBounds_toArray, List.set_cons_zero, List.set_cons_succ]
                    refine one_ (i := 2) (N := some 51) (lN 29 3) rfl rfl (by kernel_rfl) (by decide) (fun K hK => ?_)
                    refine goes_ Tryd.func34 (by kernel_rfl) rfl #[.bool sh, .agg s.cells] (by kernel_rfl) rfl rfl (by first | rfl | (simp only [List.map_toArray, List.map_cons, List.map_nil]; rfl)) ?_
                    with_reducible refine (sprref19_strict.own sh s _).mono ?_
                    rintro e wn2 ⟨rfl, hb⟩
                    refine ⟨.bool (strictB sh s), rfl, ?_⟩
                    have n0_ := Aside0.mk (HBF.out.trans (hb.mono HBF.out.size)); have n1_ := Aside0.mk (blk_below HA.out hb); have n2_ := Aside0.mk (blk_below HS.out hb); clear HBF HA HS hb; have HBF := n0_; have HA := n1_; have HS := n2_; clear n0_ n1_ n2_; clear hHeld
                    refine hK.out _ _ ⟨HA.out, HS.out⟩ (fun hHeld => ?_)
                    clear hK K
                    rw [QS.out]
                    simp only [Act.put, List.setIfInBounds_toArray, List.set_cons_zero, List.set_cons_succ]
                    refine pure_ (i := 3) (N := some 52) (v := .bool true) (lN 29 4) rfl rfl (by kernel_rfl) (fun _ _ _ h => h) (Or.inl ⟨by kernel_rfl, fun w' => by kernel_rfl⟩) rfl ?_
                    simp only [Act.put, List.setIfInBounds_toArray, List.set_cons_zero, List.set_cons_succ]
                    refine pure_ (i := 4) (N := some 53) (v := .bool true) (lN 29 5) rfl rfl (by kernel_rfl) (fun _ _ _ h => h) (Or.inl ⟨by kernel_rfl, fun w' => by kernel_rfl⟩) rfl ?_
                    simp only [Act.put, List.setIfInBounds_toArray, List.set_cons_zero, List.set_cons_succ]
                    refine pure_ (i := 5) (N := some 54) (v := .pointer (some ⟨B0, 17, none⟩)) (lN 29 6) rfl rfl (by kernel_rfl) (fun _ _ _ h => h) (Or.inl ⟨by kernel_rfl, fun w' => by kernel_rfl⟩) rfl ?_
                    simp only [Act.put, List.setIfInBounds_toArray, List.set_cons_zero, List.set_cons_succ]
                    refine pure_ (i := 6) (N := some 55) (v := .pointer (some ⟨B0, 17, none⟩)) (lN 29 7) rfl rfl (by kernel_rfl) (fun _ _ _ h => h) (Or.inl ⟨by kernel_rfl, fun w' => by kernel_rfl⟩) rfl ?_
                    simp only [Act.put, List.setIfInBounds_toArray, List.set_cons_zero, List.set_cons_succ]
                    refine take_ (i := 7) (N := some 56) (v := .bool false) (lN 29 8) rfl rfl (by kernel_rfl) (fun _ _ _ h => h) (Or.inl ⟨by kernel_rfl, fun w' hs => us_load 4 (us_bool ((blk_cell hs.1 17).trans (show a.cells[17]? = some (.bool false) by show some (Value.bool a.h3) = _; rw [Qh3.out]))) rfl rfl⟩) hHeld rfl ?_
                    simp only [Act.put, List.setIfInBounds_toArray, List.set_cons_zero, List.set_cons_succ]
                    refine pure_ (i := 8) (N := some 57) (v := .bool true) (lN 29 9) rfl rfl (by kernel_rfl) (fun _ _ _ h => h) (Or.inl ⟨by kernel_rfl, fun w' => by kernel_rfl⟩) rfl ?_
                    simp only [Act.put, List.setIfInBounds_toArray, List.set_cons_zero, List.set_cons_succ]
                    refine pure_ (i := 9) (N := some 58) (v := .bool true) (lN 29 10) rfl rfl (by kernel_rfl) (fun _ _ _ h => h) (Or.inl ⟨by kernel_rfl, fun w' => by kernel_rfl⟩) rfl ?_
                    simp only [Act.put, List.setIfInBounds_toArray, List.set_cons_zero, List.set_cons_succ]
                    refine pure_ (i := 10) (N := some 59) (v := .bool true) (lN 29 11) rfl rfl (by kernel_rfl) (fun _ _ _ h => h) (Or.inl ⟨by kernel_rfl, fun w' => by kernel_rfl⟩) rfl ?_
                    simp only [Act.put, List.setIfInBounds_toArray, List.set_cons_zero, List.set_cons_succ]
                    refine pure_ (i := 11) (N := some 60) (v := .pointer (some ⟨B0, 10, none⟩)) (lN 29 12) rfl rfl (by kernel_rfl) (fun _ _ _ h => h) (Or.inl ⟨by kernel_rfl, fun w' => by kernel_rfl⟩) rfl ?_
                    simp only [Act.put, List.setIfInBounds_toArray, List.set_cons_zero, List.set_cons_succ]
                    refine take_ (i := 12) (N := some 61) (v := .bool false) (lN 29 13) rfl rfl (by kernel_rfl) (fun _ _ _ h => h) (Or.inl ⟨by kernel_rfl, fun w' hs => us_load 4 (us_bool ((blk_cell hs.1 10).trans (show a.cells[10]? = some (.bool false) by show some (Value.bool a.b10) = _; rw [Qb10.out]))) rfl rfl⟩) hHeld rfl ?_
                    simp only [Act.put, List.setIfInBounds_toArray, List.set_cons_zero, List.set_cons_succ]
                    refine pure_ (i := 13) (N := some 62) (v := .bool false) (lN 29 14) rfl rfl (by kernel_rfl) (fun _ _ _ h => h) (Or.inl ⟨by kernel_rfl, fun w' => by kernel_rfl⟩) rfl ?_
                    simp only [Act.put, List.setIfInBounds_toArray, List.set_cons_zero, List.set_cons_succ]
                    refine pure_ (i := 14) (N := some 63) (v := .pointer (some ⟨B0, 15, none⟩)) (lN 29 15) rfl rfl (by kernel_rfl) (fun _ _ _ h => h) (Or.inl ⟨by kernel_rfl, fun w' => by kernel_rfl⟩) rfl ?_
                    simp only [Act.put, List.setIfInBounds_toArray, List.set_cons_zero, List.set_cons_succ]
                    refine pure_ (i := 15) (N := some 64) (v := .pointer (some ⟨B0, 15, none⟩)) (lN 29 16) rfl rfl (by kernel_rfl) (fun _ _ _ h => h) (Or.inl ⟨by kernel_rfl, fun w' => by kernel_rfl⟩) rfl ?_
                    simp only [Act.put, List.setIfInBounds_toArray, List.set_cons_zero, List.set_cons_succ]
                    refine take_ (i := 16) (N := some 65) (v := .bool false) (lN 29 17) rfl rfl (by kernel_rfl) (fun _ _ _ h => h) (Or.inl ⟨by kernel_rfl, fun w' hs => us_load 4 (us_bool ((blk_cell hs.1 15).trans (show a.cells[15]? = some (.bool false) by show some (Value.bool a.h2) = _; rw [Qh2.out]))) rfl rfl⟩) hHeld rfl ?_
                    simp only [Act.put, List.setIfInBounds_toArray, List.set_cons_zero, List.set_cons_succ]
                    refine pure_ (i := 17) (N := some 66) (v := .bool false) (lN 29 18) rfl rfl (by kernel_rfl) (fun _ _ _ h => h) (Or.inl ⟨by kernel_rfl, fun w' => by kernel_rfl⟩) rfl ?_
                    simp only [Act.put, List.setIfInBounds_toArray, List.set_cons_zero, List.set_cons_succ]
                    refine pure_ (i := 18) (N := some 67) (v := undef) (lN 29 19) rfl rfl (by kernel_rfl) (fun _ _ _ h => h) (Or.inr ⟨by kernel_rfl, rfl⟩) rfl ?_
                    simp only [Act.put, List.setIfInBounds_toArray, List.set_cons_zero, List.set_cons_succ]
                    refine pure_ (i := 19) (N := some 68) (v := undef) (lN 29 20) rfl rfl (by kernel_rfl) (fun _ _ _ h => h) (Or.inr ⟨by kernel_rfl, rfl⟩) rfl ?_
                    simp only [Act.put, List.setIfInBounds_toArray, List.set_cons_zero, List.set_cons_succ]
                    refine pure_ (i := 20) (N := some 69) (v := undef) (lN 29 21) rfl rfl (by kernel_rfl) (fun _ _ _ h => h) (Or.inr ⟨by kernel_rfl, rfl⟩) rfl ?_
                    simp only [Act.put, List.setIfInBounds_toArray, List.set_cons_zero, List.set_cons_succ]
                    refine pure_ (i := 21) (N := some 70) (v := undef) (lN 29 22) rfl rfl (by kernel_rfl) (fun _ _ _ h => h) (Or.inr ⟨by kernel_rfl, rfl⟩) rfl ?_
                    simp only [Act.put, List.setIfInBounds_toArray, List.set_cons_zero, List.set_cons_succ]
                    refine pure_ (i := 22) (N := some 71) (v := undef) (lN 29 23) rfl rfl (by kernel_rfl) (fun _ _ _ h => h) (Or.inr ⟨by kernel_rfl, rfl⟩) rfl ?_
                    simp only [Act.put, List.setIfInBounds_toArray, List.set_cons_zero, List.set_cons_succ]
                    refine pure_ (i := 23) (N := some 72) (v := undef) (lN 29 24) rfl rfl (by kernel_rfl) (fun _ _ _ h => h) (Or.inr ⟨by kernel_rfl, rfl⟩) rfl ?_
                    simp only [Act.put, List.setIfInBounds_toArray, List.set_cons_zero, List.set_cons_succ]
                    refine pure_ (i := 24) (N := some 73) (v := undef) (lN 29 25) rfl rfl (by kernel_rfl) (fun _ _ _ h => h) (Or.inr ⟨by kernel_rfl, rfl⟩) rfl ?_
                    simp only [Act.put, List.setIfInBounds_toArray, List.set_cons_zero, List.set_cons_succ]
                    refine pure_ (i := 25) (N := some 74) (v := .bool false) (lN 29 26) rfl rfl (by kernel_rfl) (fun _ _ _ h => h) (Or.inl ⟨by kernel_rfl, fun w' => by kernel_rfl⟩) rfl ?_
                    simp only [Act.put, List.setIfInBounds_toArray, List.set_cons_zero, List.set_cons_succ]
                    refine pure_ (i := 26) (N := some 75) (v := .bool false) (lN 29 27) rfl rfl (by kernel_rfl) (fun _ _ _ h => h) (Or.inl ⟨by kernel_rfl, fun w' => by kernel_rfl⟩) rfl ?_
                    simp only [Act.put, List.setIfInBounds_toArray, List.set_cons_zero, List.set_cons_succ]
                    refine pure_ (i := 27) (N := some 76) (v := .bool false) (lN 29 28) rfl rfl (by kernel_rfl) (fun _ _ _ h => h) (Or.inl ⟨by kernel_rfl, fun w' => by kernel_rfl⟩) rfl ?_
                    simp only [Act.put, List.setIfInBounds_toArray, List.set_cons_zero, List.set_cons_succ]
                    refine pure_ (i := 28) (N := some 48) (v := .bool false) (lN 29 29) rfl rfl (by kernel_rfl) (fun _ _ _ h => h) (Or.inl ⟨by kernel_rfl, fun w' => by kernel_rfl⟩) rfl ?_
                    simp only [Act.put, List.setIfInBounds_toArray, List.set_cons_zero, List.set_cons_succ]
                    refine done_ (by kernel_rfl) ?_
                    go_wp2
                    go_ret
                    exact ⟨by rw [HO.out, HL.out, show decideI sh a s o lf = 3 by unfold decideI; rw [if_neg (by rw [Q1.out]; decide), if_neg (by rw [Q2.out]; decide), if_neg (fun h => by have := QZ.out; have := h.2; omega), if_neg (by have := Q4.out; omega), if_neg (by rw [QS.out]; decide), if_neg (by rw [Qh3.out]; decide), if_neg (by rw [Qb10.out]; decide), if_neg (by rw [Qh2.out]; decide)]]; rfl, HBF.out⟩
                  | true =>
                    have Qh2 := Aside0.mk qg
                    clear qg
                    by_cases qn : a.n2 ≥ subI o lf
                    · have QG := Aside0.mk (decide_eq_true qn)
                      have QN := Aside0.mk qn
                      clear qn
                      refine start_ (n := 29) (S := fun w' => w'.heap[B0]? = some (.cells a.cells 50 (0, 0)) ∧ w'.heap[B0 + 1]? = some (.cells s.cells 50 (0, 0))) (ds := []) (lN 29 0) (by kernel_rfl) rfl rfl ⟨blk_drew HA.out, blk_drew HS.out⟩ (fun hHeld => ?_)
                      have n0_ := Aside0.mk (blk_drew HA.out); have n1_ := Aside0.mk (blk_drew HS.out); have n2_ := Aside0.mk (below_drew1 HBF.out); clear HA HS HBF; have HA := n0_; have HS := n1_; have HBF := n2_; clear n0_ n1_ n2_
                      generalize World.drew _ = wd at HA HS HBF hHeld ⊢
                      refine pure_ (i := 0) (N := some 49) (v := .bool sh) (lN 29 1) rfl rfl (by kernel_rfl) (fun _ _ _ h => h) (Or.inl ⟨by kernel_rfl, fun w' => by kernel_rfl⟩) rfl ?_
                      simp only [Act.put, List.setIfInBounds_toArray, List.set_cons_zero, List.set_cons_succ]
                      refine take_ (i := 1) (N := some 50) (v := .agg s.cells) (lN 29 2) rfl rfl (by kernel_rfl) (fun _ _ _ h => h) (Or.inl ⟨by kernel_rfl, fun w' hs => us_load 50 (run_loadVar_row w' (B0 + 1) 50 50 s.cells (0, 0) _ hs.2 hu35 rfl (rinfo.trans HSS.out)) rfl rfl⟩) hHeld rfl ?_
                      simp only [Act.put, List.setIfInBounds_toArray, List.set_cons_zero, List.set_cons_succ]
                      refine one_ (i := 2) (N := some 51) (lN 29 3) rfl rfl (by kernel_rfl) (by decide) (fun K hK => ?_)
                      refine goes_ Tryd.func34 (by kernel_rfl) rfl #[.bool sh, .agg s.cells] (by kernel_rfl) rfl rfl (by first | rfl | (simp only [List.map_toArray, List.map_cons, List.map_nil]; rfl)) ?_
                      with_reducible refine (sprref19_strict.own sh s _).mono ?_
                      rintro e wn2 ⟨rfl, hb⟩
                      refine ⟨.bool (strictB sh s), rfl, ?_⟩
                      have n0_ := Aside0.mk (HBF.out.trans (hb.mono HBF.out.size)); have n1_ := Aside0.mk (blk_below HA.out hb); have n2_ := Aside0.mk (blk_below HS.out hb); clear HBF HA HS hb; have HBF := n0_; have HA := n1_; have HS := n2_; clear n0_ n1_ n2_; clear hHeld
                      refine hK.out _ _ ⟨HA.out, HS.out⟩ (fun hHeld => ?_)
                      clear hK K
                      rw [QS.out]
                      simp only [Act.put, List.setIfInBounds_toArray, List.set_cons_zero, List.set_cons_succ]
                      refine pure_ (i := 3) (N := some 52) (v := .bool true) (lN 29 4) rfl rfl (by kernel_rfl) (fun _ _ _ h => h) (Or.inl ⟨by kernel_rfl, fun w' => by kernel_rfl⟩) rfl ?_
                      simp only [Act.put, List.setIfInBounds_toArray, List.set_cons_zero, List.set_cons_succ]
                      refine pure_ (i := 4) (N := some 53) (v := .bool true) (lN 29 5) rfl rfl (by kernel_rfl) (fun _ _ _ h => h) (Or.inl ⟨by kernel_rfl, fun w' => by kernel_rfl⟩) rfl ?_
                      simp only [Act.put, List.setIfInBounds_toArray, List.set_cons_zero, List.set_cons_succ]
                      refine pure_ (i := 5) (N := some 54) (v := .pointer (some ⟨B0, 17, none⟩)) (lN 29 6) rfl rfl (by kernel_rfl) (fun _ _ _ h => h) (Or.inl ⟨by kernel_rfl, fun w' => by kernel_rfl⟩) rfl ?_
                      simp only [Act.put, List.setIfInBounds_toArray, List.set_cons_zero, List.set_cons_succ]
                      refine pure_ (i := 6) (N := some 55) (v := .pointer (some ⟨B0, 17, none⟩)) (lN 29 7) rfl rfl (by kernel_rfl) (fun _ _ _ h => h) (Or.inl ⟨by kernel_rfl, fun w' => by kernel_rfl⟩) rfl ?_
                      simp only [Act.put, List.setIfInBounds_toArray, List.set_cons_zero, List.set_cons_succ]
                      refine take_ (i := 7) (N := some 56) (v := .bool false) (lN 29 8) rfl rfl (by kernel_rfl) (fun _ _ _ h => h) (Or.inl ⟨by kernel_rfl, fun w' hs => us_load 4 (us_bool ((blk_cell hs.1 17).trans (show a.cells[17]? = some (.bool false) by show some (Value.bool a.h3) = _; rw [Qh3.out]))) rfl rfl⟩) hHeld rfl ?_
                      simp only [Act.put, List.setIfInBounds_toArray, List.set_cons_zero, List.set_cons_succ]
                      refine pure_ (i := 8) (N := some 57) (v := .bool true) (lN 29 9) rfl rfl (by kernel_rfl) (fun _ _ _ h => h) (Or.inl ⟨by kernel_rfl, fun w' => by kernel_rfl⟩) rfl ?_
                      simp only [Act.put, List.setIfInBounds_toArray, List.set_cons_zero, List.set_cons_succ]
                      refine pure_ (i := 9) (N := some 58) (v := .bool true) (lN 29 10) rfl rfl (by kernel_rfl) (fun _ _ _ h => h) (Or.inl ⟨by kernel_rfl, fun w' => by kernel_rfl⟩) rfl ?_
                      simp only [Act.put, List.setIfInBounds_toArray, List.set_cons_zero, List.set_cons_succ]
                      refine pure_ (i := 10) (N := some 59) (v := .bool true) (lN 29 11) rfl rfl (by kernel_rfl) (fun _ _ _ h => h) (Or.inl ⟨by kernel_rfl, fun w' => by kernel_rfl⟩) rfl ?_
                      simp only [Act.put, List.setIfInBounds_toArray, List.set_cons_zero, List.set_cons_succ]
                      refine pure_ (i := 11) (N := some 60) (v := .pointer (some ⟨B0, 10, none⟩)) (lN 29 12) rfl rfl (by kernel_rfl) (fun _ _ _ h => h) (Or.inl ⟨by kernel_rfl, fun w' => by kernel_rfl⟩) rfl ?_
                      simp only [Act.put, List.setIfInBounds_toArray, List.set_cons_zero, List.set_cons_succ]
                      refine take_ (i := 12) (N := some 61) (v := .bool false) (lN 29 13) rfl rfl (by kernel_rfl) (fun _ _ _ h => h) (Or.inl ⟨by kernel_rfl, fun w' hs => us_load 4 (us_bool ((blk_cell hs.1 10).trans (show a.cells[10]? = some (.bool false) by show some (Value.bool a.b10) = _; rw [Qb10.out]))) rfl rfl⟩) hHeld rfl ?_
                      simp only [Act.put, List.setIfInBounds_toArray, List.set_cons_zero, List.set_cons_succ]
                      refine pure_ (i := 13) (N := some 62) (v := .bool false) (lN 29 14) rfl rfl (by kernel_rfl) (fun _ _ _ h => h) (Or.inl ⟨by kernel_rfl, fun w' => by kernel_rfl⟩) rfl ?_
                      simp only [Act.put, List.setIfInBounds_toArray, List.set_cons_zero, List.set_cons_succ]
                      refine pure_ (i := 14) (N := some 63) (v := .pointer (some ⟨B0, 15, none⟩)) (lN 29 15) rfl rfl (by kernel_rfl) (fun _ _ _ h => h) (Or.inl ⟨by kernel_rfl, fun w' => by kernel_rfl⟩) rfl ?_
                      simp only [Act.put, List.setIfInBounds_toArray, List.set_cons_zero, List.set_cons_succ]
                      refine pure_ (i := 15) (N := some 64) (v := .pointer (some ⟨B0, 15, none⟩)) (lN 29 16) rfl rfl (by kernel_rfl) (fun _ _ _ h => h) (Or.inl ⟨by kernel_rfl, fun w' => by kernel_rfl⟩) rfl ?_
                      simp only [Act.put, List.setIfInBounds_toArray, List.set_cons_zero, List.set_cons_succ]
                      refine take_ (i := 16) (N := some 65) (v := .bool true) (lN 29 17) rfl rfl (by kernel_rfl) (fun _ _ _ h => h) (Or.inl ⟨by kernel_rfl, fun w' hs => us_load 4 (us_bool ((blk_cell hs.1 15).trans (show a.cells[15]? = some (.bool true) by show some (Value.bool a.h2) = _; rw [Qh2.out]))) rfl rfl⟩) hHeld rfl ?_
                      simp only [Act.put, List.setIfInBounds_toArray, List.set_cons_zero, List.set_cons_succ]
                      refine pure_ (i := 17) (N := some 66) (v := .bool true) (lN 29 18) rfl rfl (by kernel_rfl) (fun _ _ _ h => h) (Or.inl ⟨by kernel_rfl, fun w' => by kernel_rfl⟩) rfl ?_
                      simp only [Act.put, List.setIfInBounds_toArray, List.set_cons_zero, List.set_cons_succ]
                      refine pure_ (i := 18) (N := some 67) (v := .pointer (some ⟨B0, 15, none⟩)) (lN 29 19) rfl rfl (by kernel_rfl) (fun _ _ _ h => h) (Or.inl ⟨by kernel_rfl, fun w' => by kernel_rfl⟩) rfl ?_
                      simp only [Act.put, List.setIfInBounds_toArray, List.set_cons_zero, List.set_cons_succ]
                      refine pure_ (i := 19) (N := some 68) (v := .pointer (some ⟨B0, 16, none⟩)) (lN 29 20) rfl rfl (by kernel_rfl) (fun _ _ _ h => h) (Or.inl ⟨by kernel_rfl, fun w' => by kernel_rfl⟩) rfl ?_
                      simp only [Act.put, List.setIfInBounds_toArray, List.set_cons_zero, List.set_cons_succ]
                      refine take_ (i := 20) (N := some 69) (v := .int .i64 a.n2) (lN 29 21) rfl rfl (by kernel_rfl) (fun _ _ _ h => h) (Or.inl ⟨by kernel_rfl, fun w' hs => us_load 3 (us_int ((blk_cell hs.1 16).trans (show a.cells[16]? = some (.int .i64 a.n2) from rfl))) rfl rfl⟩) hHeld rfl ?_
                      simp only [Act.put, List.setIfInBounds_toArray, List.set_cons_zero, List.set_cons_succ]
                      refine pure_ (i := 21) (N := some 70) (v := .int .i64 o) (lN 29 22) rfl rfl (by kernel_rfl) (fun _ _ _ h => h) (Or.inl ⟨by kernel_rfl, fun w' => by kernel_rfl⟩) rfl ?_
                      simp only [Act.put, List.setIfInBounds_toArray, List.set_cons_zero, List.set_cons_succ]
                      refine pure_ (i := 22) (N := some 71) (v := .int .i64 lf) (lN 29 23) rfl rfl (by kernel_rfl) (fun _ _ _ h => h) (Or.inl ⟨by kernel_rfl, fun w' => by kernel_rfl⟩) rfl ?_
                      simp only [Act.put, List.setIfInBounds_toArray, List.set_cons_zero, List.set_cons_succ]
                      refine one_ (i := 23) (N := some 72) (lN 29 24) rfl rfl (by kernel_rfl) (by decide) (fun K hK => ?_)
                      refine goes_ Tryd.func35 (by kernel_rfl) rfl #[.int .i64 o, .int .i64 lf] (by kernel_rfl) rfl rfl (by first | rfl | (simp only [List.map_toArray, List.map_cons, List.map_nil]; rfl)) ?_
                      with_reducible refine (sprref1_Sub.calls o lf _ _ (SubR_is o lf)).mono ?_
                      rintro e wn23 ⟨rfl, hb⟩
                      refine ⟨.int .i64 (subI o lf), rfl, ?_⟩
                      have n0_ := Aside0.mk (HBF.out.trans (hb.mono HBF.out.size)); have n1_ := Aside0.mk (blk_below HA.out hb); have n2_ := Aside0.mk (blk_below HS.out hb); clear HBF HA HS hb; have HBF := n0_; have HA := n1_; have HS := n2_; clear n0_ n1_ n2_; clear hHeld
                      refine hK.out _ _ ⟨HA.out, HS.out⟩ (fun hHeld => ?_)
                      clear hK K
                      simp only [Act.put, List.setIfInBounds_toArray, List.set_cons_zero, List.set_cons_succ]
                      refine pure_ (i := 24) (N := some 73) (v := .bool true) (lN 29 25) rfl rfl (by kernel_rfl) (fun _ _ _ h => h) (Or.inl ⟨by kernel_rfl, fun w' => us_geq QG.out rfl rfl rfl⟩) rfl ?_
                      simp only [Act.put, List.setIfInBounds_toArray, List.set_cons_zero, List.set_cons_succ]
                      refine pure_ (i := 25) (N := some 74) (v := .bool true) (lN 29 26) rfl rfl (by kernel_rfl) (fun _ _ _ h => h) (Or.inl ⟨by kernel_rfl, fun w' => by kernel_rfl⟩) rfl ?_
                      simp only [Act.put, List.setIfInBounds_toArray, List.set_cons_zero, List.set_cons_succ]
                      refine pure_ (i := 26) (N := some 75) (v := .bool true) (lN 29 27) rfl rfl (by kernel_rfl) (fun _ _ _ h => h) (Or.inl ⟨by kernel_rfl, fun w' => by kernel_rfl⟩) rfl ?_
                      simp only [Act.put, List.setIfInBounds_toArray, List.set_cons_zero, List.set_cons_succ]
                      refine pure_ (i := 27) (N := some 76) (v := .bool true) (lN 29 28) rfl rfl (by kernel_rfl) (fun _ _ _ h => h) (Or.inl ⟨by kernel_rfl, fun w' => by kernel_rfl⟩) rfl ?_
                      simp only [Act.put, List.setIfInBounds_toArray, List.set_cons_zero, List.set_cons_succ]
                      refine pure_ (i := 28) (N := some 48) (v := .bool true) (lN 29 29) rfl rfl (by kernel_rfl) (fun _ _ _ h => h) (Or.inl ⟨by kernel_rfl, fun w' => by kernel_rfl⟩) rfl ?_
                      simp only [Act.put, List.setIfInBounds_toArray, List.set_cons_zero, List.set_cons_succ]
                      refine done_ (by kernel_rfl) ?_
                      go_wp2
                      go_ret
                      exact ⟨by rw [HO.out, HL.out, show decideI sh a s o lf = 2 by unfold decideI; rw [if_neg (by rw [Q1.out]; decide), if_neg (by rw [Q2.out]; decide), if_neg (fun h => by have := QZ.out; have := h.2; omega), if_neg (by have := Q4.out; omega), if_neg (by rw [QS.out]; decide), if_neg (by rw [Qh3.out]; decide), if_neg (by rw [Qb10.out]; decide), if_pos Qh2.out, if_pos (by have := QN.out; omega)]]; rfl, HBF.out⟩
                    · have QG := Aside0.mk (decide_eq_false qn)
                      have QN := Aside0.mk qn
                      clear qn
                      refine start_ (n := 29) (S := fun w' => w'.heap[B0]? = some (.cells a.cells 50 (0, 0)) ∧ w'.heap[B0 + 1]? = some (.cells s.cells 50 (0, 0))) (ds := []) (lN 29 0) (by kernel_rfl) rfl rfl ⟨blk_drew HA.out, blk_drew HS.out⟩ (fun hHeld => ?_)
                      have n0_ := Aside0.mk (blk_drew HA.out); have n1_ := Aside0.mk (blk_drew HS.out); have n2_ := Aside0.mk (below_drew1 HBF.out); clear HA HS HBF; have HA := n0_; have HS := n1_; have HBF := n2_; clear n0_ n1_ n2_
                      generalize World.drew _ = wd at HA HS HBF hHeld ⊢
                      refine pure_ (i := 0) (N := some 49) (v := .bool sh) (lN 29 1) rfl rfl (by kernel_rfl) (fun _ _ _ h => h) (Or.inl ⟨by kernel_rfl, fun w' => by kernel_rfl⟩) rfl ?_
                      simp only [Act.put, List.setIfInBounds_toArray, List.set_cons_zero, List.set_cons_succ]
                      refine take_ (i := 1) (N := some 50) (v := .agg s.cells) (lN 29 2) rfl rfl (by kernel_rfl) (fun _ _ _ h => h) (Or.inl ⟨by kernel_rfl, fun w' hs => us_load 50 (run_loadVar_row w' (B0 + 1) 50 50 s.cells (0, 0) _ hs.2 hu35 rfl (rinfo.trans HSS.out)) rfl rfl⟩) hHeld rfl ?_
                      simp only [Act.put, List.setIfInBounds_toArray, List.set_cons_zero, List.set_cons_succ]
                      refine one_ (i := 2) (N := some 51) (lN 29 3) rfl rfl (by kernel_rfl) (by decide) (fun K hK => ?_)
                      refine goes_ Tryd.func34 (by kernel_rfl) rfl #[.bool sh, .agg s.cells] (by kernel_rfl) rfl rfl (by first | rfl | (simp only [List.map_toArray, List.map_cons, List.map_nil]; rfl)) ?_
                      with_reducible refine (sprref19_strict.own sh s _).mono ?_
                      rintro e wn2 ⟨rfl, hb⟩
                      refine ⟨.bool (strictB sh s), rfl, ?_⟩
                      have n0_ := Aside0.mk (HBF.out.trans (hb.mono HBF.out.size)); have n1_ := Aside0.mk (blk_below HA.out hb); have n2_ := Aside0.mk (blk_below HS.out hb); clear HBF HA HS hb; have HBF := n0_; have HA := n1_; have HS := n2_; clear n0_ n1_ n2_; clear hHeld
                      refine hK.out _ _ ⟨HA.out, HS.out⟩ (fun hHeld => ?_)
                      clear hK K
                      rw [QS.out]
                      simp only [Act.put, List.setIfInBounds_toArray, List.set_cons_zero, List.set_cons_succ]
                      refine pure_ (i := 3) (N := some 52) (v := .bool true) (lN 29 4) rfl rfl (by kernel_rfl) (fun _ _ _ h => h) (Or.inl ⟨by kernel_rfl, fun w' => by kernel_rfl⟩) rfl ?_
                      simp only [Act.put, List.setIfInBounds_toArray, List.set_cons_zero, List.set_cons_succ]
                      refine pure_ (i := 4) (N := some 53) (v := .bool true) (lN 29 5) rfl rfl (by kernel_rfl) (fun _ _ _ h => h) (Or.inl ⟨by kernel_rfl, fun w' => by kernel_rfl⟩) rfl ?_
                      simp only [Act.put, List.setIfInBounds_toArray, List.set_cons_zero, List.set_cons_succ]
                      refine pure_ (i := 5) (N := some 54) (v := .pointer (some ⟨B0, 17, none⟩)) (lN 29 6) rfl rfl (by kernel_rfl) (fun _ _ _ h => h) (Or.inl ⟨by kernel_rfl, fun w' => by kernel_rfl⟩) rfl ?_
                      simp only [Act.put, List.setIfInBounds_toArray, List.set_cons_zero, List.set_cons_succ]
                      refine pure_ (i := 6) (N := some 55) (v := .pointer (some ⟨B0, 17, none⟩)) (lN 29 7) rfl rfl (by kernel_rfl) (fun _ _ _ h => h) (Or.inl ⟨by kernel_rfl, fun w' => by kernel_rfl⟩) rfl ?_
                      simp only [Act.put, List.setIfInBounds_toArray, List.set_cons_zero, List.set_cons_succ]
                      refine take_ (i := 7) (N := some 56) (v := .bool false) (lN 29 8) rfl rfl (by kernel_rfl) (fun _ _ _ h => h) (Or.inl ⟨by kernel_rfl, fun w' hs => us_load 4 (us_bool ((blk_cell hs.1 17).trans (show a.cells[17]? = some (.bool false) by show some (Value.bool a.h3) = _; rw [Qh3.out]))) rfl rfl⟩) hHeld rfl ?_
                      simp only [Act.put, List.setIfInBounds_toArray, List.set_cons_zero, List.set_cons_succ]
                      refine pure_ (i := 8) (N := some 57) (v := .bool true) (lN 29 9) rfl rfl (by kernel_rfl) (fun _ _ _ h => h) (Or.inl ⟨by kernel_rfl, fun w' => by kernel_rfl⟩) rfl ?_
                      simp only [Act.put, List.setIfInBounds_toArray, List.set_cons_zero, List.set_cons_succ]
                      refine pure_ (i := 9) (N := some 58) (v := .bool true) (lN 29 10) rfl rfl (by kernel_rfl) (fun _ _ _ h => h) (Or.inl ⟨by kernel_rfl, fun w' => by kernel_rfl⟩) rfl ?_
                      simp only [Act.put, List.setIfInBounds_toArray, List.set_cons_zero, List.set_cons_succ]
                      refine pure_ (i := 10) (N := some 59) (v := .bool true) (lN 29 11) rfl rfl (by kernel_rfl) (fun _ _ _ h => h) (Or.inl ⟨by kernel_rfl, fun w' => by kernel_rfl⟩) rfl ?_
                      simp only [Act.put, List.setIfInBounds_toArray, List.set_cons_zero, List.set_cons_succ]
                      refine pure_ (i := 11) (N := some 60) (v := .pointer (some ⟨B0, 10, none⟩)) (lN 29 12) rfl rfl (by kernel_rfl) (fun _ _ _ h => h) (Or.inl ⟨by kernel_rfl, fun w' => by kernel_rfl⟩) rfl ?_
                      simp only [Act.put, List.setIfInBounds_toArray, List.set_cons_zero, List.set_cons_succ]
                      refine take_ (i := 12) (N := some 61) (v := .bool false) (lN 29 13) rfl rfl (by kernel_rfl) (fun _ _ _ h => h) (Or.inl ⟨by kernel_rfl, fun w' hs => us_load 4 (us_bool ((blk_cell hs.1 10).trans (show a.cells[10]? = some (.bool false) by show some (Value.bool a.b10) = _; rw [Qb10.out]))) rfl rfl⟩) hHeld rfl ?_
                      simp only [Act.put, List.setIfInBounds_toArray, List.set_cons_zero, List.set_cons_succ]
                      refine pure_ (i := 13) (N := some 62) (v := .bool false) (lN 29 14) rfl rfl (by kernel_rfl) (fun _ _ _ h => h) (Or.inl ⟨by kernel_rfl, fun w' => by kernel_rfl⟩) rfl ?_
                      simp only [Act.put, List.setIfInBounds_toArray, List.set_cons_zero, List.set_cons_succ]
                      refine pure_ (i := 14) (N := some 63) (v := .pointer (some ⟨B0, 15, none⟩)) (lN 29 15) rfl rfl (by kernel_rfl) (fun _ _ _ h => h) (Or.inl ⟨by kernel_rfl, fun w' => by kernel_rfl⟩) rfl ?_
                      simp only [Act.put, List.setIfInBounds_toArray, List.set_cons_zero, List.set_cons_succ]
                      refine pure_ (i := 15) (N := some 64) (v := .pointer (some ⟨B0, 15, none⟩)) (lN 29 16) rfl rfl (by kernel_rfl) (fun _ _ _ h => h) (Or.inl ⟨by kernel_rfl, fun w' => by kernel_rfl⟩) rfl ?_
                      simp only [Act.put, List.setIfInBounds_toArray, List.set_cons_zero, List.set_cons_succ]
                      refine take_ (i := 16) (N := some 65) (v := .bool true) (lN 29 17) rfl rfl (by kernel_rfl) (fun _ _ _ h => h) (Or.inl ⟨by kernel_rfl, fun w' hs => us_load 4 (us_bool ((blk_cell hs.1 15).trans (show a.cells[15]? = some (.bool true) by show some (Value.bool a.h2) = _; rw [Qh2.out]))) rfl rfl⟩) hHeld rfl ?_
                      simp only [Act.put, List.setIfInBounds_toArray, List.set_cons_zero, List.set_cons_succ]
                      refine pure_ (i := 17) (N := some 66) (v := .bool true) (lN 29 18) rfl rfl (by kernel_rfl) (fun _ _ _ h => h) (Or.inl ⟨by kernel_rfl, fun w' => by kernel_rfl⟩) rfl ?_
                      simp only [Act.put, List.setIfInBounds_toArray, List.set_cons_zero, List.set_cons_succ]
                      refine pure_ (i := 18) (N := some 67) (v := .pointer (some ⟨B0, 15, none⟩)) (lN 29 19) rfl rfl (by kernel_rfl) (fun _ _ _ h => h) (Or.inl ⟨by kernel_rfl, fun w' => by kernel_rfl⟩) rfl ?_
                      simp only [Act.put, List.setIfInBounds_toArray, List.set_cons_zero, List.set_cons_succ]
                      refine pure_ (i := 19) (N := some 68) (v := .pointer (some ⟨B0, 16, none⟩)) (lN 29 20) rfl rfl (by kernel_rfl) (fun _ _ _ h => h) (Or.inl ⟨by kernel_rfl, fun w' => by kernel_rfl⟩) rfl ?_
                      simp only [Act.put, List.setIfInBounds_toArray, List.set_cons_zero, List.set_cons_succ]
                      refine take_ (i := 20) (N := some 69) (v := .int .i64 a.n2) (lN 29 21) rfl rfl (by kernel_rfl) (fun _ _ _ h => h) (Or.inl ⟨by kernel_rfl, fun w' hs => us_load 3 (us_int ((blk_cell hs.1 16).trans (show a.cells[16]? = some (.int .i64 a.n2) from rfl))) rfl rfl⟩) hHeld rfl ?_
                      simp only [Act.put, List.setIfInBounds_toArray, List.set_cons_zero, List.set_cons_succ]
                      refine pure_ (i := 21) (N := some 70) (v := .int .i64 o) (lN 29 22) rfl rfl (by kernel_rfl) (fun _ _ _ h => h) (Or.inl ⟨by kernel_rfl, fun w' => by kernel_rfl⟩) rfl ?_
                      simp only [Act.put, List.setIfInBounds_toArray, List.set_cons_zero, List.set_cons_succ]
                      refine pure_ (i := 22) (N := some 71) (v := .int .i64 lf) (lN 29 23) rfl rfl (by kernel_rfl) (fun _ _ _ h => h) (Or.inl ⟨by kernel_rfl, fun w' => by kernel_rfl⟩) rfl ?_
                      simp only [Act.put, List.setIfInBounds_toArray, List.set_cons_zero, List.set_cons_succ]
                      refine one_ (i := 23) (N := some 72) (lN 29 24) rfl rfl (by kernel_rfl) (by decide) (fun K hK => ?_)
                      refine goes_ Tryd.func35 (by kernel_rfl) rfl #[.int .i64 o, .int .i64 lf] (by kernel_rfl) rfl rfl (by first | rfl | (simp only [List.map_toArray, List.map_cons, List.map_nil]; rfl)) ?_
                      with_reducible refine (sprref1_Sub.calls o lf _ _ (SubR_is o lf)).mono ?_
                      rintro e wn23 ⟨rfl, hb⟩
                      refine ⟨.int .i64 (subI o lf), rfl, ?_⟩
                      have n0_ := Aside0.mk (HBF.out.trans (hb.mono HBF.out.size)); have n1_ := Aside0.mk (blk_below HA.out hb); have n2_ := Aside0.mk (blk_below HS.out hb); clear HBF HA HS hb; have HBF := n0_; have HA := n1_; have HS := n2_; clear n0_ n1_ n2_; clear hHeld
                      refine hK.out _ _ ⟨HA.out, HS.out⟩ (fun hHeld => ?_)
                      clear hK K
                      simp only [Act.put, List.setIfInBounds_toArray, List.set_cons_zero, List.set_cons_succ]
                      refine pure_ (i := 24) (N := some 73) (v := .bool false) (lN 29 25) rfl rfl (by kernel_rfl) (fun _ _ _ h => h) (Or.inl ⟨by kernel_rfl, fun w' => us_geq QG.out rfl rfl rfl⟩) rfl ?_
                      simp only [Act.put, List.setIfInBounds_toArray, List.set_cons_zero, List.set_cons_succ]
                      refine pure_ (i := 25) (N := some 74) (v := .bool false) (lN 29 26) rfl rfl (by kernel_rfl) (fun _ _ _ h => h) (Or.inl ⟨by kernel_rfl, fun w' => by kernel_rfl⟩) rfl ?_
                      simp only [Act.put, List.setIfInBounds_toArray, List.set_cons_zero, List.set_cons_succ]
                      refine pure_ (i := 26) (N := some 75) (v := .bool false) (lN 29 27) rfl rfl (by kernel_rfl) (fun _ _ _ h => h) (Or.inl ⟨by kernel_rfl, fun w' => by kernel_rfl⟩) rfl ?_
                      simp only [Act.put, List.setIfInBounds_toArray, List.set_cons_zero, List.set_cons_succ]
                      refine pure_ (i := 27) (N := some 76) (v := .bool false) (lN 29 28) rfl rfl (by kernel_rfl) (fun _ _ _ h => h) (Or.inl ⟨by kernel_rfl, fun w' => by kernel_rfl⟩) rfl ?_
                      simp only [Act.put, List.setIfInBounds_toArray, List.set_cons_zero, List.set_cons_succ]
                      refine pure_ (i := 28) (N := some 48) (v := .bool false) (lN 29 29) rfl rfl (by kernel_rfl) (fun _ _ _ h => h) (Or.inl ⟨by kernel_rfl, fun w' => by kernel_rfl⟩) rfl ?_
                      simp only [Act.put, List.setIfInBounds_toArray, List.set_cons_zero, List.set_cons_succ]
                      refine done_ (by kernel_rfl) ?_
                      go_wp2
                      go_ret
                      exact ⟨by rw [HO.out, HL.out, show decideI sh a s o lf = 3 by unfold decideI; rw [if_neg (by rw [Q1.out]; decide), if_neg (by rw [Q2.out]; decide), if_neg (fun h => by have := QZ.out; have := h.2; omega), if_neg (by have := Q4.out; omega), if_neg (by rw [QS.out]; decide), if_neg (by rw [Qh3.out]; decide), if_neg (by rw [Qb10.out]; decide), if_pos Qh2.out, if_neg (by have := QN.out; omega)]]; rfl, HBF.out⟩
def sprref19_Decide.f (k : Nat) (a0 : Bool) (l1 : List S29) (l2 : List S29) (a3 : Int) (a4 : Int) : Option (Int) := (sprref19_wish.R k l1).bind fun a => (sprref19_control.R k l2).bind fun s => some (decideI a0 a s (clipI a3) (clipI a4))
theorem sprref19_Decide.mono : ∀ a0 a1 a2 a3 a4 k, LeO (sprref19_Decide.f k a0 a1 a2 a3 a4) (sprref19_Decide.f (k + 1) a0 a1 a2 a3 a4) := by
  intro a0 a1 a2 a3 a4 k
  unfold sprref19_Decide.f
  exact LeO.bind (sprref19_wish.monoR k _) fun _ => LeO.bind (sprref19_control.monoR k _) fun _ => LeO.refl _
theorem sprref19_Decide.calls (k : Nat) (a0 : Bool) (A1 : Option Addr) (c1 : Nat) (l1 : List S29) (A2 : Option Addr) (c2 : Nat) (l2 : List S29) (a3 : Int) (a4 : Int) (r : Int) (w : World) (hr1 : Kd.C k29 w A1 l1.length l1) (hc1 : l1.length ≤ c1) (hr2 : Kd.C k29 w A2 l2.length l2) (hc2 : l2.length ≤ c2) (h : sprref19_Decide.f k a0 l1 l2 a3 a4 = some r) :
    Calls Tryd.prog 15 #[.bool a0, .slice A1 l1.length c1, .slice A2 l2.length c2, .int .i64 a3, .int .i64 a4] w fun e w' => e = .returned (.int .i64 r) ∧ Below w.heap.size w w' := by
  unfold sprref19_Decide.f at h
  obtain ⟨a, h1, h⟩ := Option.bind_eq_some_iff.1 h
  obtain ⟨s, h2, h⟩ := Option.bind_eq_some_iff.1 h
  obtain rfl := Option.some.inj h
  exact sprref19_Decide.own k a0 A1 c1 l1 A2 c2 l2 a3 a4 a s w hr1 hc1 hr2 hc2 h1 h2


end Go.Proofs.YtlkbnbkabpodoaaDoor.U
