-- Written by a program of this session's (wip/xprint.py), out of the seat's translation.
import Derived.Test.YtbnlglfddglceaaGreatDoorQ0
import Derived.Test.YtbnlglfddglceaaGreatDoorQ9
import Derived.Test.YtbnlglfddglceaaGreatDoorQ11
import Derived.Test.YtbnlglfddglceaaGreatDoorSh
namespace Go.Proofs.YtbnlglfddglceaaGreatDoor.Q
open Go.RowKit Go.Proofs.YtbnlglfddglceaaGreatDoorW.PrintWords Go.Proofs.YtbnlglfddglceaaGreatDoorW.PrintLast Go.Proofs.YtbnlglfddglceaaGreatDoorW.PrintMore
open Go.Proofs.YtbnlglfddglceaaGreatDoor.Own (Y Z sA sB sC)
open Go.Proofs.YtbnlglfddglceaaGreatDoor.Sh
attribute [local go_sem] max2_int min2_int max_two min_two max_three min_three max_four min_four   -- for this text's walks alone
set_option linter.unusedVariables false
set_option linter.unusedSimpArgs false
/-! ### sprref19_control: by hand -/
def sprref19_control.R (k : Nat) (l : List S56) : Option Own.Ctl := (sprref12_All.f k l (⟨#[67, 97, 99, 104, 101, 45, 67, 111, 110, 116, 114, 111, 108]⟩ : ByteArray)).bind fun v => rpR k v
theorem sprref19_control.monoR (k : Nat) (l : List S56) : LeO (sprref19_control.R k l) (sprref19_control.R (k + 1) l) := LeO.bind (sprref12_All.mono _ _ k) fun _ => rpR_mono k _
theorem sprref19_control.below {B g : Nat} {w0 w : World} (hb : Below B w0 w) (hg : B ≤ g) (cs : Array Value) : Below B w0 (w.setRow g cs) :=
  ⟨hb.os, hb.tape, hb.output, by rw [setRow_size]; exact hb.size, fun k hk => (setRow_other w g k cs (by omega)).trans (hb.block k hk)⟩
set_option maxHeartbeats 1000000 in
set_option maxRecDepth 100000 in
theorem sprref19_control.own (k : Nat) (A : Option Addr) (c0 : Nat) (l : List S56) (c : Own.Ctl) (w : World) (hr0 : Kd.C k56 w A l.length l) (hc0 : l.length ≤ c0) (h : sprref19_control.R k l = some c) :
    Calls Tryz.prog 29 #[.slice A l.length c0] w fun e w' => e = .returned (.agg c.cells) ∧ Below w.heap.size w w' := by
  unfold sprref19_control.R at h
  obtain ⟨v, h1, h2⟩ := Option.bind_eq_some_iff.1 h
  have hu35 := Tryz.underlying51
  have HR0 := Aside0.mk hr0
  have HC0 := Aside0.mk hc0
  have H1 := Aside0.mk h1
  have H2 := Aside0.mk h2
  obtain ⟨wa, hwa⟩ : ∃ wa, wa = w.alloc (.cells #[.bool false, .bool false, .bool false, .bool false, .bool false, .bool false, .bool false, .bool false, .bool false, .bool false, .bool false, .bool false, .int .i64 0, .bool false, .int .i64 0, .bool false, .int .i64 0, .bool false, .int .i64 0, .bool false, .int .i64 0] 51) := ⟨_, rfl⟩
  have HB : Aside0 (Below w.heap.size w wa) := ⟨by rw [hwa]; exact (Below.refl _ w).alloc (Nat.le_refl _) _⟩
  have HZ : Aside0 (wa.heap[w.heap.size]? = some (.cells Own.Ctl.zero.cells 51 (0, 0))) := ⟨by rw [hwa]; exact blk_new w _⟩
  have HSZ : Aside0 (some 21 = some c.cells.size) := ⟨rfl⟩
  clear hr0 hc0 h h1 h2
  go_enter Tryz.func29, Tryz.ntmps29
  go_wp2_with (first | (go_at_call 32; rw [← hwa]; (with_reducible refine (sprref12_All.calls k A c0 l _ v _ (Kd.C_below HR0.out HB.out) HC0.out H1.out).mono ?_); rintro e w1 ⟨v1, rfl, hR, hb⟩; obtain ⟨A1, c1, rfl, hc1, hC1⟩ := Kd.R_reads hR; have n0_ := Aside0.mk (HB.out.trans (hb.mono HB.out.size)); have n1_ := Aside0.mk (blk_below HZ.out hb); have HC1 := Aside0.mk hC1; clear HB HZ hb hR hC1 hwa; have HB := n0_; have HZ := n1_; clear n0_ n1_) | (go_at_call 48; (with_reducible refine (rpR_calls k A1 c1 v c _ HC1.out hc1 H2.out).mono ?_); rintro e w2 ⟨rfl, hb⟩; have n0_ := Aside0.mk (HB.out.trans (hb.mono HB.out.size)); have n1_ := Aside0.mk (blk_below HZ.out hb); clear HB HZ hb; have HB := n0_; have HZ := n1_; clear n0_ n1_) | ((with_reducible refine gate_store (t := 51) rfl ?_); refine wpList_store_row rfl 51 _ _ rfl w.heap.size c.cells rfl rfl 51 Own.Ctl.zero.cells HZ.out (rinfo.trans HSZ.out) rfl (by simp [Own.Ctl.cells, Value.oneCell']) ?_))
  refine bodyPost_ret (results_cell_row rfl _ _ w.heap.size 51 c.cells (0, 0) _ rfl (setRow_heap _ _ _ _ _ _ HZ.out) hu35 rfl (rinfo.trans HSZ.out)) rfl ?_
  exact ⟨rfl, sprref19_control.below HB.out (Nat.le_refl _) _⟩
def sprref19_control.f (k : Nat) (l0 : List S56) : Option (Bool × Bool × Bool × Bool × Bool × Bool × Bool × Bool × Bool × Bool × Bool × Bool × Int × Bool × Int × Bool × Int × Bool × Int × Bool × Int) := (sprref19_control.R k l0).bind fun c => some c.tup
theorem sprref19_control.mono : ∀ a0 k, LeO (sprref19_control.f k a0) (sprref19_control.f (k + 1) a0) := by
  intro a0 k
  unfold sprref19_control.f
  exact LeO.bind (sprref19_control.monoR k a0) fun _ => LeO.refl _
theorem sprref19_control.calls (k : Nat) (A0 : Option Addr) (c0 : Nat) (l0 : List S56) (r1 : Bool) (r2 : Bool) (r3 : Bool) (r4 : Bool) (r5 : Bool) (r6 : Bool) (r7 : Bool) (r8 : Bool) (r9 : Bool) (r10 : Bool) (r11 : Bool) (r12 : Bool) (r13 : Int) (r14 : Bool) (r15 : Int) (r16 : Bool) (r17 : Int) (r18 : Bool) (r19 : Int) (r20 : Bool) (r21 : Int) (w : World) (hr0 : Kd.C k56 w A0 l0.length l0) (hc0 : l0.length ≤ c0) (h : sprref19_control.f k l0 = some (r1, r2, r3, r4, r5, r6, r7, r8, r9, r10, r11, r12, r13, r14, r15, r16, r17, r18, r19, r20, r21)) :
    Calls Tryz.prog 29 #[.slice A0 l0.length c0] w fun e w' => e = .returned (.agg #[.bool r1, .bool r2, .bool r3, .bool r4, .bool r5, .bool r6, .bool r7, .bool r8, .bool r9, .bool r10, .bool r11, .bool r12, .int .i64 r13, .bool r14, .int .i64 r15, .bool r16, .int .i64 r17, .bool r18, .int .i64 r19, .bool r20, .int .i64 r21]) ∧ Below w.heap.size w w' := by
  unfold sprref19_control.f at h
  obtain ⟨c, h1, h⟩ := Option.bind_eq_some_iff.1 h
  have h := Option.some.inj h
  unfold Own.Ctl.tup at h
  simp only [Prod.mk.injEq] at h
  obtain ⟨rfl, rfl, rfl, rfl, rfl, rfl, rfl, rfl, rfl, rfl, rfl, rfl, rfl, rfl, rfl, rfl, rfl, rfl, rfl, rfl, rfl⟩ := h
  exact sprref19_control.own k A0 c0 l0 c w hr0 hc0 h1
/-! ### sprref19_Usual: function 30 -/
def sprref19_Usual.f (a0 : Int) : Option (Bool) := if a0 = 200 then (some true) else (if a0 = 203 then (some true) else (if a0 = 204 then (some true) else (if a0 = 300 then (some true) else (if a0 = 301 then (some true) else (if a0 = 308 then (some true) else (if a0 = 404 then (some true) else (if a0 = 405 then (some true) else (if a0 = 410 then (some true) else (if a0 = 414 then (some true) else (if a0 = 501 then (some true) else (some false)))))))))))
set_option maxHeartbeats 2000000 in
set_option maxRecDepth 100000 in
theorem sprref19_Usual.calls (a0 : Int) (r : Bool) (w : World) (h : sprref19_Usual.f a0 = some r) :
  Calls Tryz.prog 30 #[.int .i64 a0] w fun e w' => e = .returned (.bool r) ∧ Drawn0 w w' := by
 have H : (if a0 = 200 then (some true) else (if a0 = 203 then (some true) else (if a0 = 204 then (some true) else (if a0 = 300 then (some true) else (if a0 = 301 then (some true) else (if a0 = 308 then (some true) else (if a0 = 404 then (some true) else (if a0 = 405 then (some true) else (if a0 = 410 then (some true) else (if a0 = 414 then (some true) else (if a0 = 501 then (some true) else (some false)))))))))))) = some r := h;clear h
 by_cases c2 : a0 = 200
 ·rw [if_pos c2] at H;have c2b0 : (a0 == 200) = true := beq_iff_eq.mpr c2;have c2b1 : (a0 != 200) = false := bne_eq_false_iff_eq.mpr c2;clear c2;obtain rfl := Option.some.inj H;go_enter Tryz.func30, Tryz.ntmps30;go_wp2;go_ret;exact ⟨by first | rfl | (simp; done) | (simp [*]; done), by repeat (first | exact Drawn0.refl _ | apply Drawn0.step)⟩
 ·rw [if_neg c2] at H
  have c2b0 : (a0 == 200) = false := beq_eq_false_iff_ne.mpr c2;have c2b1 : (a0 != 200) = true := bne_iff_ne.mpr c2
  by_cases c3 : a0 = 203
  ·rw [if_pos c3] at H;have c3b0 : (a0 == 203) = true := beq_iff_eq.mpr c3;have c3b1 : (a0 != 203) = false := bne_eq_false_iff_eq.mpr c3;clear c3;obtain rfl := Option.some.inj H;go_enter Tryz.func30, Tryz.ntmps30;go_wp2;go_ret;exact ⟨by first | rfl | (simp; done) | (simp [*]; done), by repeat (first | exact Drawn0.refl _ | apply Drawn0.step)⟩
  ·rw [if_neg c3] at H
   have c3b0 : (a0 == 203) = false := beq_eq_false_iff_ne.mpr c3;have c3b1 : (a0 != 203) = true := bne_iff_ne.mpr c3
   by_cases c4 : a0 = 204
   ·rw [if_pos c4] at H;have c4b0 : (a0 == 204) = true := beq_iff_eq.mpr c4;have c4b1 : (a0 != 204) = false := bne_eq_false_iff_eq.mpr c4;clear c4;obtain rfl := Option.some.inj H;go_enter Tryz.func30, Tryz.ntmps30;go_wp2;go_ret;exact ⟨by first | rfl | (simp; done) | (simp [*]; done), by repeat (first | exact Drawn0.refl _ | apply Drawn0.step)⟩
   ·rw [if_neg c4] at H
    have c4b0 : (a0 == 204) = false := beq_eq_false_iff_ne.mpr c4;have c4b1 : (a0 != 204) = true := bne_iff_ne.mpr c4
    by_cases c5 : a0 = 300
    ·rw [if_pos c5] at H;have c5b0 : (a0 == 300) = true := beq_iff_eq.mpr c5;have c5b1 : (a0 != 300) = false := bne_eq_false_iff_eq.mpr c5;clear c5;obtain rfl := Option.some.inj H;go_enter Tryz.func30, Tryz.ntmps30;go_wp2;go_ret;exact ⟨by first | rfl | (simp; done) | (simp [*]; done), by repeat (first | exact Drawn0.refl _ | apply Drawn0.step)⟩
    ·rw [if_neg c5] at H
     have c5b0 : (a0 == 300) = false := beq_eq_false_iff_ne.mpr c5;have c5b1 : (a0 != 300) = true := bne_iff_ne.mpr c5
     by_cases c6 : a0 = 301
     ·rw [if_pos c6] at H;have c6b0 : (a0 == 301) = true := beq_iff_eq.mpr c6;have c6b1 : (a0 != 301) = false := bne_eq_false_iff_eq.mpr c6;clear c6;obtain rfl := Option.some.inj H;go_enter Tryz.func30, Tryz.ntmps30;go_wp2;go_ret;exact ⟨by first | rfl | (simp; done) | (simp [*]; done), by repeat (first | exact Drawn0.refl _ | apply Drawn0.step)⟩
     ·rw [if_neg c6] at H
      have c6b0 : (a0 == 301) = false := beq_eq_false_iff_ne.mpr c6;have c6b1 : (a0 != 301) = true := bne_iff_ne.mpr c6
      by_cases c7 : a0 = 308
      ·rw [if_pos c7] at H;have c7b0 : (a0 == 308) = true := beq_iff_eq.mpr c7;have c7b1 : (a0 != 308) = false := bne_eq_false_iff_eq.mpr c7;clear c7;obtain rfl := Option.some.inj H;go_enter Tryz.func30, Tryz.ntmps30;go_wp2;go_ret;exact ⟨by first | rfl | (simp; done) | (simp [*]; done), by repeat (first | exact Drawn0.refl _ | apply Drawn0.step)⟩
      ·rw [if_neg c7] at H
       have c7b0 : (a0 == 308) = false := beq_eq_false_iff_ne.mpr c7;have c7b1 : (a0 != 308) = true := bne_iff_ne.mpr c7
       by_cases c8 : a0 = 404
       ·rw [if_pos c8] at H;have c8b0 : (a0 == 404) = true := beq_iff_eq.mpr c8;have c8b1 : (a0 != 404) = false := bne_eq_false_iff_eq.mpr c8;clear c8;obtain rfl := Option.some.inj H;go_enter Tryz.func30, Tryz.ntmps30;go_wp2;go_ret;exact ⟨by first | rfl | (simp; done) | (simp [*]; done), by repeat (first | exact Drawn0.refl _ | apply Drawn0.step)⟩
       ·rw [if_neg c8] at H
        have c8b0 : (a0 == 404) = false := beq_eq_false_iff_ne.mpr c8;have c8b1 : (a0 != 404) = true := bne_iff_ne.mpr c8
        by_cases c9 : a0 = 405
        ·rw [if_pos c9] at H;have c9b0 : (a0 == 405) = true := beq_iff_eq.mpr c9;have c9b1 : (a0 != 405) = false := bne_eq_false_iff_eq.mpr c9;clear c9;obtain rfl := Option.some.inj H;go_enter Tryz.func30, Tryz.ntmps30;go_wp2;go_ret;exact ⟨by first | rfl | (simp; done) | (simp [*]; done), by repeat (first | exact Drawn0.refl _ | apply Drawn0.step)⟩
        ·rw [if_neg c9] at H
         have c9b0 : (a0 == 405) = false := beq_eq_false_iff_ne.mpr c9;have c9b1 : (a0 != 405) = true := bne_iff_ne.mpr c9
         by_cases c10 : a0 = 410
         ·rw [if_pos c10] at H;have c10b0 : (a0 == 410) = true := beq_iff_eq.mpr c10;have c10b1 : (a0 != 410) = false := bne_eq_false_iff_eq.mpr c10;clear c10;obtain rfl := Option.some.inj H;go_enter Tryz.func30, Tryz.ntmps30;go_wp2;go_ret;exact ⟨by first | rfl | (simp; done) | (simp [*]; done), by repeat (first | exact Drawn0.refl _ | apply Drawn0.step)⟩
         ·rw [if_neg c10] at H
          have c10b0 : (a0 == 410) = false := beq_eq_false_iff_ne.mpr c10;have c10b1 : (a0 != 410) = true := bne_iff_ne.mpr c10
          by_cases c11 : a0 = 414
          ·rw [if_pos c11] at H;have c11b0 : (a0 == 414) = true := beq_iff_eq.mpr c11;have c11b1 : (a0 != 414) = false := bne_eq_false_iff_eq.mpr c11;clear c11;obtain rfl := Option.some.inj H;go_enter Tryz.func30, Tryz.ntmps30;go_wp2;go_ret;exact ⟨by first | rfl | (simp; done) | (simp [*]; done), by repeat (first | exact Drawn0.refl _ | apply Drawn0.step)⟩
          ·rw [if_neg c11] at H
           have c11b0 : (a0 == 414) = false := beq_eq_false_iff_ne.mpr c11;have c11b1 : (a0 != 414) = true := bne_iff_ne.mpr c11
           by_cases c12 : a0 = 501
           ·rw [if_pos c12] at H;have c12b0 : (a0 == 501) = true := beq_iff_eq.mpr c12;have c12b1 : (a0 != 501) = false := bne_eq_false_iff_eq.mpr c12;clear c12;obtain rfl := Option.some.inj H;go_enter Tryz.func30, Tryz.ntmps30;go_wp2;go_ret;exact ⟨by first | rfl | (simp; done) | (simp [*]; done), by repeat (first | exact Drawn0.refl _ | apply Drawn0.step)⟩
           ·rw [if_neg c12] at H;have c12b0 : (a0 == 501) = false := beq_eq_false_iff_ne.mpr c12;have c12b1 : (a0 != 501) = true := bne_iff_ne.mpr c12;obtain rfl := Option.some.inj H;go_enter Tryz.func30, Tryz.ntmps30;go_wp2;go_ret;exact ⟨by first | rfl | (simp; done) | (simp [*]; done), by repeat (first | exact Drawn0.refl _ | apply Drawn0.step)⟩
end Go.Proofs.YtbnlglfddglceaaGreatDoor.Q
