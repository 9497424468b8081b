-- Written by a program of this session's (wip/xprint.py), out of the seat's translation.
import Derived.Test.YtldkhokpedfhdaaDoorQ0
import Derived.Test.YtldkhokpedfhdaaDoorQ1
import Derived.Test.YtldkhokpedfhdaaDoorQ3
import Derived.Test.YtldkhokpedfhdaaDoorQ4
import Derived.Test.YtldkhokpedfhdaaDoorQ5
namespace Go.Proofs.YtldkhokpedfhdaaDoor.Q
open Go.RowKit Go.Proofs.YtldkhokpedfhdaaDoorW.PrintWords Go.Proofs.YtldkhokpedfhdaaDoorW.PrintLast Go.Proofs.YtldkhokpedfhdaaDoorW.PrintMore
attribute [local go_sem] max2_int min2_int max_two min_two max_three min_three max_four min_four   -- for this text's walks alone
set_option linter.unusedVariables false
set_option linter.unusedSimpArgs false

/-! ### sprlaw7_IpBack: function 8 -/
set_option maxHeartbeats 4000000 in
set_option maxRecDepth 100000 in
theorem sprlaw7_IpBack.long (n : Int) (p : List Int) (s : ByteArray) (w : World) (hT : Own.ipW w) (hs : ¬ s.size ≤ 5000) :
    Calls Tryd.prog 8 #[.int .u32 n, .agg (arrV p), .string s] w fun e w' => e = .returned (.bool true) ∧ Below w.heap.size w w' := by
  have HT := Aside0.mk hT
  have hu := Tryd.underlying23
  have hi0 : (Tryd.prog.info? 23).map (·.size) = some (arrV zero8).size := by kernel_rfl
  have T0 := Aside0.mk trivial
  obtain ⟨w0, hw0⟩ : ∃ w0, w0 = w.alloc (.cells (arrV p) 23) := ⟨_, rfl⟩
  have HB0 : Aside0 (Below w.heap.size w w0) := ⟨by rw [hw0]; exact below_alloc (Below.refl _ _) _⟩
  have HRp_0 : Aside0 (w0.heap[w.heap.size]? = some (.cells (arrV p) 23 (0, 0))) := ⟨by rw [hw0]; exact blk_new _ _⟩
  have q0 : decide ((5000 : Int) < (s.size : Int)) = true := decide_eq_true (by omega)
  go_enter Tryd.func8, Tryd.ntmps8
  go_wp2_with (first | (clear T0; go_at_call 9; rw [← hw0]; clear hw0; (with_reducible refine (sprlaw7_first.calls 0 true _ rfl (Own.ipW_below HT.out HB0.out)).mono ?_); rintro e w1 ⟨rfl, hb⟩; have HB1 := Aside0.mk (HB0.out.trans (hb.mono HB0.out.size)); have HRp_1 := Aside0.mk (blk_below HRp_0.out hb); clear hb HB0 HRp_0; have T1 := Aside0.mk trivial) | (clear T1; go_at_call 9; (with_reducible refine (sprlaw7_first.calls 0 true _ rfl (Own.ipW_below HT.out HB1.out)).mono ?_); rintro e w2 ⟨rfl, hb⟩; have HB2 := Aside0.mk (HB1.out.trans (hb.mono HB1.out.size)); have HRp_2 := Aside0.mk (blk_below HRp_1.out hb); clear hb HB1 HRp_1; have T2 := Aside0.mk trivial))
  go_ret
  exact ⟨rfl, HB2.out⟩
set_option maxHeartbeats 4000000 in
set_option maxRecDepth 100000 in
theorem sprlaw7_IpBack.w00 (k : Nat) (n : Int) (p : List Int) (s a t bt ut : ByteArray) (b1 b2 : Int) (u : List Int) (u2 : Int) (w : World) (hT : Own.ipW w) (hs : s.size ≤ 5000) (hp8 : p.length = 8) (hu8 : u.length = 8) (ha : ip_Print4.f k n = some a) (hx : ip_Parse4.f k a = some (n, 0)) (ht : ip_Print6.g k p = some t) (hq : ip_Parse6.g k t = some (p, 0)) (he : ip_Ends.f k a = some true) (hb : ip_Parse4.f k s = some (b1, 0)) (hbt : ip_Print4.f k b1 = some bt) (hc : ip_Parse4.f k bt = some (b1, 0)) (hu6 : ip_Parse6.g k s = some (u, 0)) (hut : ip_Print6.g k u = some ut) (hv : ip_Parse6.g k ut = some (u, 0))  :
    Calls Tryd.prog 8 #[.int .u32 n, .agg (arrV p), .string s] w fun e w' => e = .returned (.bool true) ∧ Below w.heap.size w w' := by
  have HT := Aside0.mk hT
  have hu := Tryd.underlying23
  have hi0 : (Tryd.prog.info? 23).map (·.size) = some (arrV zero8).size := by kernel_rfl
  have T0 := Aside0.mk trivial
  obtain ⟨w0, hw0⟩ : ∃ w0, w0 = w.alloc (.cells (arrV p) 23) := ⟨_, rfl⟩
  have HB0 : Aside0 (Below w.heap.size w w0) := ⟨by rw [hw0]; exact below_alloc (Below.refl _ _) _⟩
  have HRp_0 : Aside0 (w0.heap[w.heap.size]? = some (.cells (arrV p) 23 (0, 0))) := ⟨by rw [hw0]; exact blk_new _ _⟩
  have hu2' := Tryd.underlying22
  have hip : Aside0 ((Tryd.prog.info? 23).map (·.size) = some (arrV p).size) := ⟨by rw [arr_size, hp8]; kernel_rfl⟩
  have hsp : Aside0 ((arrV zero8).size = (arrV p).size) := ⟨by rw [arr_size, arr_size, hp8]; rfl⟩
  have hiu : Aside0 ((Tryd.prog.info? 23).map (·.size) = some (arrV u).size) := ⟨by rw [arr_size, hu8]; kernel_rfl⟩
  have hsu : Aside0 ((arrV zero8).size = (arrV u).size) := ⟨by rw [arr_size, arr_size, hu8]; rfl⟩
  have heqp := fun w' => arr_eq (P := Tryd.prog) (t := 23) (e := 22) (n := 8) Tryd.underlying23 Tryd.underlying22 (fun _ => by kernel_rfl) (fun _ => by kernel_rfl) 9998 p p hp8 hp8 w'
  rw [decide_eq_true (rfl : p = p)] at heqp
  have hequ := fun w' => arr_eq (P := Tryd.prog) (t := 23) (e := 22) (n := 8) Tryd.underlying23 Tryd.underlying22 (fun _ => by kernel_rfl) (fun _ => by kernel_rfl) 9998 u u hu8 hu8 w'
  rw [decide_eq_true (rfl : u = u)] at hequ
  have HP8 := Aside0.mk hp8
  have HU8 := Aside0.mk hu8
  clear hp8 hu8
  have q0 : decide ((5000 : Int) < (s.size : Int)) = false := decide_eq_false (by omega)
  go_enter Tryd.func8, Tryd.ntmps8
  go_wp2_with (first | (clear T0; go_at_call 9; rw [← hw0]; clear hw0; (with_reducible refine (sprlaw7_first.calls 0 true _ rfl (Own.ipW_below HT.out HB0.out)).mono ?_); rintro e w1 ⟨rfl, hb⟩; have HB1 := Aside0.mk (HB0.out.trans (hb.mono HB0.out.size)); have HRp_1 := Aside0.mk (blk_below HRp_0.out hb); clear hb HB0 HRp_0; have T1 := Aside0.mk trivial) | (clear T1; go_at_call 18; (with_reducible refine (ip_Print4.calls k n a _ ha (Own.ipW_below HT.out HB1.out)).mono ?_); rintro e w2 ⟨rfl, hb⟩; have HB2 := Aside0.mk (HB1.out.trans (hb.mono HB1.out.size)); have HRp_2 := Aside0.mk (blk_below HRp_1.out hb); clear hb HB1 HRp_1; have T2 := Aside0.mk trivial) | (clear T2; go_at_call 13; (with_reducible refine (ip_Parse4.calls k a n 0 _ hx).mono ?_); rintro e w3 ⟨rfl, hb⟩; have HB3 := Aside0.mk (HB2.out.trans (hb.mono HB2.out.size)); have HRp_3 := Aside0.mk (blk_below HRp_2.out hb); clear hb HB2 HRp_2; have T3 := Aside0.mk trivial) | ((with_reducible refine gate_dst (N := 32) rfl ?_); refine gate_guard (by rfl) ?_; refine wpList_load_row rfl 23 (.tmp 4) rfl w.heap.size rfl 23 (arrV p) (0, 0) _ HRp_3.out hu rfl hip.out ?_) | (clear T3; go_at_call 10; (with_reducible refine (ip_Print6.gcalls k p t _ ht (Own.ipW_below HT.out HB3.out)).mono ?_); rintro e w4 ⟨rfl, hb⟩; have HB4 := Aside0.mk (HB3.out.trans (hb.mono HB3.out.size)); have HRp_4 := Aside0.mk (blk_below HRp_3.out hb); clear hb HB3 HRp_3; have T4 := Aside0.mk trivial) | (clear T4; go_at_call 12; (with_reducible refine (ip_Parse6.gcalls k t p 0 _ hq (Own.ipW_below HT.out HB4.out)).mono ?_); rintro e w5 ⟨rfl, hb⟩; have HB5 := Aside0.mk (HB4.out.trans (hb.mono HB4.out.size)); have HRp_5 := Aside0.mk (blk_below HRp_4.out hb); clear hb HB4 HRp_4; have T5 := Aside0.mk trivial) | (clear T5; (with_reducible refine gate_store (t := 23) (p := 9) rfl ?_); refine wpList_store_row rfl 23 (.tmp 9) (.tmp 35) rfl w5.heap.size (arrV p) rfl rfl 23 (arrV zero8) (blk_new _ _) hip.out hsp.out (arr_one _) ?_; rw [show (w5.alloc (.cells #[Value.int IntKind.u16 0, Value.int IntKind.u16 0, Value.int IntKind.u16 0, Value.int IntKind.u16 0, Value.int IntKind.u16 0, Value.int IntKind.u16 0, Value.int IntKind.u16 0, Value.int IntKind.u16 0] 23)).setRow w5.heap.size (arrV p) = w5.alloc (.cells (arrV p) 23) from Own.alloc_setRow _ _ _ _]; obtain ⟨w6, hw⟩ : ∃ v, v = w5.alloc (.cells (arrV p) 23) := ⟨_, rfl⟩; rw [← hw]; have HB6 := Aside0.mk (hw ▸ below_alloc HB5.out _ : Below w.heap.size w w6); have HRp_6 := Aside0.mk (hw ▸ blk_alloc HRp_5.out _ : w6.heap[w.heap.size]? = some (.cells (arrV p) 23 (0, 0))); have HRq_6 := Aside0.mk (hw ▸ blk_new w5 _ : w6.heap[w5.heap.size]? = some (.cells (arrV p) 23 (0, 0))); clear hw HB5 HRp_5; have T6 := Aside0.mk trivial) | ((with_reducible refine gate_dst (N := 49) rfl ?_); refine gate_guard (by rfl) ?_; refine wpList_load_row rfl 23 (.tmp 9) rfl w5.heap.size rfl 23 (arrV p) (0, 0) _ HRq_6.out hu rfl hip.out ?_) | ((with_reducible refine gate_dst (N := 50) rfl ?_); refine gate_guard (by rfl) ?_; refine wpList_load_row rfl 23 (.tmp 4) rfl w.heap.size rfl 23 (arrV p) (0, 0) _ HRp_6.out hu rfl hip.out ?_) | (clear T6; go_at_call 18; (with_reducible refine (ip_Print4.calls k n a _ ha (Own.ipW_below HT.out HB6.out)).mono ?_); rintro e w7 ⟨rfl, hb⟩; have HB7 := Aside0.mk (HB6.out.trans (hb.mono HB6.out.size)); have HRp_7 := Aside0.mk (blk_below HRp_6.out hb); have HRq_7 := Aside0.mk (blk_below HRq_6.out hb); clear hb HB6 HRp_6 HRq_6; have T7 := Aside0.mk trivial) | (clear T7; go_at_call 16; (with_reducible refine (ip_Ends.calls k a true _ he).mono ?_); rintro e w8 ⟨rfl, hb⟩; have HB8 := Aside0.mk (HB7.out.trans (hb.mono HB7.out.size)); have HRp_8 := Aside0.mk (blk_below HRp_7.out hb); have HRq_8 := Aside0.mk (blk_below HRq_7.out hb); clear hb HB7 HRp_7 HRq_7; have T8 := Aside0.mk trivial) | (clear T8; go_at_call 13; (with_reducible refine (ip_Parse4.calls k s b1 0 _ hb).mono ?_); rintro e w9 ⟨rfl, hb⟩; have HB9 := Aside0.mk (HB8.out.trans (hb.mono HB8.out.size)); have HRp_9 := Aside0.mk (blk_below HRp_8.out hb); have HRq_9 := Aside0.mk (blk_below HRq_8.out hb); clear hb HB8 HRp_8 HRq_8; have T9 := Aside0.mk trivial) | (clear T9; go_at_call 18; (with_reducible refine (ip_Print4.calls k b1 bt _ hbt (Own.ipW_below HT.out HB9.out)).mono ?_); rintro e w10 ⟨rfl, hb⟩; have HB10 := Aside0.mk (HB9.out.trans (hb.mono HB9.out.size)); have HRp_10 := Aside0.mk (blk_below HRp_9.out hb); have HRq_10 := Aside0.mk (blk_below HRq_9.out hb); clear hb HB9 HRp_9 HRq_9; have T10 := Aside0.mk trivial) | (clear T10; go_at_call 13; (with_reducible refine (ip_Parse4.calls k bt b1 0 _ hc).mono ?_); rintro e w11 ⟨rfl, hb⟩; have HB11 := Aside0.mk (HB10.out.trans (hb.mono HB10.out.size)); have HRp_11 := Aside0.mk (blk_below HRp_10.out hb); have HRq_11 := Aside0.mk (blk_below HRq_10.out hb); clear hb HB10 HRp_10 HRq_10; have T11 := Aside0.mk trivial) | (clear T11; go_at_call 12; (with_reducible refine (ip_Parse6.gcalls k s u 0 _ hu6 (Own.ipW_below HT.out HB11.out)).mono ?_); rintro e w12 ⟨rfl, hb⟩; have HB12 := Aside0.mk (HB11.out.trans (hb.mono HB11.out.size)); have HRp_12 := Aside0.mk (blk_below HRp_11.out hb); have HRq_12 := Aside0.mk (blk_below HRq_11.out hb); clear hb HB11 HRp_11 HRq_11; have T12 := Aside0.mk trivial) | (clear T12; (with_reducible refine gate_store (t := 23) (p := 15) rfl ?_); refine wpList_store_row rfl 23 (.tmp 15) (.tmp 73) rfl w12.heap.size (arrV u) rfl rfl 23 (arrV zero8) (blk_new _ _) hiu.out hsu.out (arr_one _) ?_; rw [show (w12.alloc (.cells #[Value.int IntKind.u16 0, Value.int IntKind.u16 0, Value.int IntKind.u16 0, Value.int IntKind.u16 0, Value.int IntKind.u16 0, Value.int IntKind.u16 0, Value.int IntKind.u16 0, Value.int IntKind.u16 0] 23)).setRow w12.heap.size (arrV u) = w12.alloc (.cells (arrV u) 23) from Own.alloc_setRow _ _ _ _]; obtain ⟨w13, hw⟩ : ∃ v, v = w12.alloc (.cells (arrV u) 23) := ⟨_, rfl⟩; rw [← hw]; have HB13 := Aside0.mk (hw ▸ below_alloc HB12.out _ : Below w.heap.size w w13); have HRp_13 := Aside0.mk (hw ▸ blk_alloc HRp_12.out _ : w13.heap[w.heap.size]? = some (.cells (arrV p) 23 (0, 0))); have HRq_13 := Aside0.mk (hw ▸ blk_alloc HRq_12.out _ : w13.heap[w5.heap.size]? = some (.cells (arrV p) 23 (0, 0))); have HRu_13 := Aside0.mk (hw ▸ blk_new w12 _ : w13.heap[w12.heap.size]? = some (.cells (arrV u) 23 (0, 0))); clear hw HB12 HRp_12 HRq_12; have T13 := Aside0.mk trivial) | ((with_reducible refine gate_dst (N := 76) rfl ?_); refine gate_guard (by rfl) ?_; refine wpList_load_row rfl 23 (.tmp 15) rfl w12.heap.size rfl 23 (arrV u) (0, 0) _ HRu_13.out hu rfl hiu.out ?_) | (clear T13; go_at_call 10; (with_reducible refine (ip_Print6.gcalls k u ut _ hut (Own.ipW_below HT.out HB13.out)).mono ?_); rintro e w14 ⟨rfl, hb⟩; have HB14 := Aside0.mk (HB13.out.trans (hb.mono HB13.out.size)); have HRp_14 := Aside0.mk (blk_below HRp_13.out hb); have HRq_14 := Aside0.mk (blk_below HRq_13.out hb); have HRu_14 := Aside0.mk (blk_below HRu_13.out hb); clear hb HB13 HRp_13 HRq_13 HRu_13; have T14 := Aside0.mk trivial) | (clear T14; go_at_call 12; (with_reducible refine (ip_Parse6.gcalls k ut u 0 _ hv (Own.ipW_below HT.out HB14.out)).mono ?_); rintro e w15 ⟨rfl, hb⟩; have HB15 := Aside0.mk (HB14.out.trans (hb.mono HB14.out.size)); have HRp_15 := Aside0.mk (blk_below HRp_14.out hb); have HRq_15 := Aside0.mk (blk_below HRq_14.out hb); have HRu_15 := Aside0.mk (blk_below HRu_14.out hb); clear hb HB14 HRp_14 HRq_14 HRu_14; have T15 := Aside0.mk trivial) | (clear T15; (with_reducible refine gate_store (t := 23) (p := 17) rfl ?_); refine wpList_store_row rfl 23 (.tmp 17) (.tmp 79) rfl w15.heap.size (arrV u) rfl rfl 23 (arrV zero8) (blk_new _ _) hiu.out hsu.out (arr_one _) ?_; rw [show (w15.alloc (.cells #[Value.int IntKind.u16 0, Value.int IntKind.u16 0, Value.int IntKind.u16 0, Value.int IntKind.u16 0, Value.int IntKind.u16 0, Value.int IntKind.u16 0, Value.int IntKind.u16 0, Value.int IntKind.u16 0] 23)).setRow w15.heap.size (arrV u) = w15.alloc (.cells (arrV u) 23) from Own.alloc_setRow _ _ _ _]; obtain ⟨w16, hw⟩ : ∃ v, v = w15.alloc (.cells (arrV u) 23) := ⟨_, rfl⟩; rw [← hw]; have HB16 := Aside0.mk (hw ▸ below_alloc HB15.out _ : Below w.heap.size w w16); have HRp_16 := Aside0.mk (hw ▸ blk_alloc HRp_15.out _ : w16.heap[w.heap.size]? = some (.cells (arrV p) 23 (0, 0))); have HRq_16 := Aside0.mk (hw ▸ blk_alloc HRq_15.out _ : w16.heap[w5.heap.size]? = some (.cells (arrV p) 23 (0, 0))); have HRu_16 := Aside0.mk (hw ▸ blk_alloc HRu_15.out _ : w16.heap[w12.heap.size]? = some (.cells (arrV u) 23 (0, 0))); have HRv_16 := Aside0.mk (hw ▸ blk_new w15 _ : w16.heap[w15.heap.size]? = some (.cells (arrV u) 23 (0, 0))); clear hw HB15 HRp_15 HRq_15 HRu_15; have T16 := Aside0.mk trivial) | (clear T16; go_at_call 9; (with_reducible refine (sprlaw7_first.calls 0 true _ rfl (Own.ipW_below HT.out HB16.out)).mono ?_); rintro e w17 ⟨rfl, hb⟩; have HB17 := Aside0.mk (HB16.out.trans (hb.mono HB16.out.size)); have HRp_17 := Aside0.mk (blk_below HRp_16.out hb); have HRq_17 := Aside0.mk (blk_below HRq_16.out hb); have HRu_17 := Aside0.mk (blk_below HRu_16.out hb); have HRv_17 := Aside0.mk (blk_below HRv_16.out hb); clear hb HB16 HRp_16 HRq_16 HRu_16 HRv_16; have T17 := Aside0.mk trivial) | ((with_reducible refine gate_dst (N := 103) rfl ?_); refine gate_guard (by rfl) ?_; refine wpList_load_row rfl 23 (.tmp 15) rfl w12.heap.size rfl 23 (arrV u) (0, 0) _ HRu_17.out hu rfl hiu.out ?_) | ((with_reducible refine gate_dst (N := 113) rfl ?_); refine gate_guard (by rfl) ?_; refine wpList_load_row rfl 23 (.tmp 17) rfl w15.heap.size rfl 23 (arrV u) (0, 0) _ HRv_17.out hu rfl hiu.out ?_) | ((with_reducible refine gate_dst (N := 114) rfl ?_); refine gate_guard (by rfl) ?_; refine wpList_load_row rfl 23 (.tmp 15) rfl w12.heap.size rfl 23 (arrV u) (0, 0) _ HRu_17.out hu rfl hiu.out ?_))
  go_ret
  exact ⟨rfl, HB17.out⟩
set_option maxHeartbeats 4000000 in
set_option maxRecDepth 100000 in
theorem sprlaw7_IpBack.w01 (k : Nat) (n : Int) (p : List Int) (s a t bt ut : ByteArray) (b1 b2 : Int) (u : List Int) (u2 : Int) (w : World) (hT : Own.ipW w) (hs : s.size ≤ 5000) (hp8 : p.length = 8) (hu8 : u.length = 8) (ha : ip_Print4.f k n = some a) (hx : ip_Parse4.f k a = some (n, 0)) (ht : ip_Print6.g k p = some t) (hq : ip_Parse6.g k t = some (p, 0)) (he : ip_Ends.f k a = some true) (hb : ip_Parse4.f k s = some (b1, 0)) (hbt : ip_Print4.f k b1 = some bt) (hc : ip_Parse4.f k bt = some (b1, 0)) (hu6 : ip_Parse6.g k s = some (zero8, u2)) (hut : ip_Print6.g k zero8 = some ut) (hv : ip_Parse6.g k ut = some (zero8, 0)) (hu2 : u2 ≠ 0) :
    Calls Tryd.prog 8 #[.int .u32 n, .agg (arrV p), .string s] w fun e w' => e = .returned (.bool true) ∧ Below w.heap.size w w' := by
  have HT := Aside0.mk hT
  have hu := Tryd.underlying23
  have hi0 : (Tryd.prog.info? 23).map (·.size) = some (arrV zero8).size := by kernel_rfl
  have T0 := Aside0.mk trivial
  obtain ⟨w0, hw0⟩ : ∃ w0, w0 = w.alloc (.cells (arrV p) 23) := ⟨_, rfl⟩
  have HB0 : Aside0 (Below w.heap.size w w0) := ⟨by rw [hw0]; exact below_alloc (Below.refl _ _) _⟩
  have HRp_0 : Aside0 (w0.heap[w.heap.size]? = some (.cells (arrV p) 23 (0, 0))) := ⟨by rw [hw0]; exact blk_new _ _⟩
  have hu2' := Tryd.underlying22
  have hip : Aside0 ((Tryd.prog.info? 23).map (·.size) = some (arrV p).size) := ⟨by rw [arr_size, hp8]; kernel_rfl⟩
  have hsp : Aside0 ((arrV zero8).size = (arrV p).size) := ⟨by rw [arr_size, arr_size, hp8]; rfl⟩
  have hiu : Aside0 ((Tryd.prog.info? 23).map (·.size) = some (arrV zero8).size) := ⟨hi0⟩
  have heqp := fun w' => arr_eq (P := Tryd.prog) (t := 23) (e := 22) (n := 8) Tryd.underlying23 Tryd.underlying22 (fun _ => by kernel_rfl) (fun _ => by kernel_rfl) 9998 p p hp8 hp8 w'
  rw [decide_eq_true (rfl : p = p)] at heqp
  have hequ := fun w' => arr_eq (P := Tryd.prog) (t := 23) (e := 22) (n := 8) Tryd.underlying23 Tryd.underlying22 (fun _ => by kernel_rfl) (fun _ => by kernel_rfl) 9998 zero8 zero8 zero8_len zero8_len w'
  rw [decide_eq_true (rfl : zero8 = zero8)] at hequ
  have heq0 : ∀ w', (Op.equalIn (9998 + 2) 23 (.agg (arrV zero8)) (.agg #[Value.int IntKind.u16 0, Value.int IntKind.u16 0, Value.int IntKind.u16 0, Value.int IntKind.u16 0, Value.int IntKind.u16 0, Value.int IntKind.u16 0, Value.int IntKind.u16 0, Value.int IntKind.u16 0])).run Tryd.prog w' = .ok true w' := hequ
  have HP8 := Aside0.mk hp8
  have HU8 := Aside0.mk hu8
  clear hp8 hu8
  have q0 : decide ((5000 : Int) < (s.size : Int)) = false := decide_eq_false (by omega)
  have eu : (u2 == 0) = false := beq_eq_false_iff_ne.2 hu2
  go_enter Tryd.func8, Tryd.ntmps8
  go_wp2_with (first | (clear T0; go_at_call 9; rw [← hw0]; clear hw0; (with_reducible refine (sprlaw7_first.calls 0 true _ rfl (Own.ipW_below HT.out HB0.out)).mono ?_); rintro e w1 ⟨rfl, hb⟩; have HB1 := Aside0.mk (HB0.out.trans (hb.mono HB0.out.size)); have HRp_1 := Aside0.mk (blk_below HRp_0.out hb); clear hb HB0 HRp_0; have T1 := Aside0.mk trivial) | (clear T1; go_at_call 18; (with_reducible refine (ip_Print4.calls k n a _ ha (Own.ipW_below HT.out HB1.out)).mono ?_); rintro e w2 ⟨rfl, hb⟩; have HB2 := Aside0.mk (HB1.out.trans (hb.mono HB1.out.size)); have HRp_2 := Aside0.mk (blk_below HRp_1.out hb); clear hb HB1 HRp_1; have T2 := Aside0.mk trivial) | (clear T2; go_at_call 13; (with_reducible refine (ip_Parse4.calls k a n 0 _ hx).mono ?_); rintro e w3 ⟨rfl, hb⟩; have HB3 := Aside0.mk (HB2.out.trans (hb.mono HB2.out.size)); have HRp_3 := Aside0.mk (blk_below HRp_2.out hb); clear hb HB2 HRp_2; have T3 := Aside0.mk trivial) | ((with_reducible refine gate_dst (N := 32) rfl ?_); refine gate_guard (by rfl) ?_; refine wpList_load_row rfl 23 (.tmp 4) rfl w.heap.size rfl 23 (arrV p) (0, 0) _ HRp_3.out hu rfl hip.out ?_) | (clear T3; go_at_call 10; (with_reducible refine (ip_Print6.gcalls k p t _ ht (Own.ipW_below HT.out HB3.out)).mono ?_); rintro e w4 ⟨rfl, hb⟩; have HB4 := Aside0.mk (HB3.out.trans (hb.mono HB3.out.size)); have HRp_4 := Aside0.mk (blk_below HRp_3.out hb); clear hb HB3 HRp_3; have T4 := Aside0.mk trivial) | (clear T4; go_at_call 12; (with_reducible refine (ip_Parse6.gcalls k t p 0 _ hq (Own.ipW_below HT.out HB4.out)).mono ?_); rintro e w5 ⟨rfl, hb⟩; have HB5 := Aside0.mk (HB4.out.trans (hb.mono HB4.out.size)); have HRp_5 := Aside0.mk (blk_below HRp_4.out hb); clear hb HB4 HRp_4; have T5 := Aside0.mk trivial) | (clear T5; (with_reducible refine gate_store (t := 23) (p := 9) rfl ?_); refine wpList_store_row rfl 23 (.tmp 9) (.tmp 35) rfl w5.heap.size (arrV p) rfl rfl 23 (arrV zero8) (blk_new _ _) hip.out hsp.out (arr_one _) ?_; rw [show (w5.alloc (.cells #[Value.int IntKind.u16 0, Value.int IntKind.u16 0, Value.int IntKind.u16 0, Value.int IntKind.u16 0, Value.int IntKind.u16 0, Value.int IntKind.u16 0, Value.int IntKind.u16 0, Value.int IntKind.u16 0] 23)).setRow w5.heap.size (arrV p) = w5.alloc (.cells (arrV p) 23) from Own.alloc_setRow _ _ _ _]; obtain ⟨w6, hw⟩ : ∃ v, v = w5.alloc (.cells (arrV p) 23) := ⟨_, rfl⟩; rw [← hw]; have HB6 := Aside0.mk (hw ▸ below_alloc HB5.out _ : Below w.heap.size w w6); have HRp_6 := Aside0.mk (hw ▸ blk_alloc HRp_5.out _ : w6.heap[w.heap.size]? = some (.cells (arrV p) 23 (0, 0))); have HRq_6 := Aside0.mk (hw ▸ blk_new w5 _ : w6.heap[w5.heap.size]? = some (.cells (arrV p) 23 (0, 0))); clear hw HB5 HRp_5; have T6 := Aside0.mk trivial) | ((with_reducible refine gate_dst (N := 49) rfl ?_); refine gate_guard (by rfl) ?_; refine wpList_load_row rfl 23 (.tmp 9) rfl w5.heap.size rfl 23 (arrV p) (0, 0) _ HRq_6.out hu rfl hip.out ?_) | ((with_reducible refine gate_dst (N := 50) rfl ?_); refine gate_guard (by rfl) ?_; refine wpList_load_row rfl 23 (.tmp 4) rfl w.heap.size rfl 23 (arrV p) (0, 0) _ HRp_6.out hu rfl hip.out ?_) | (clear T6; go_at_call 18; (with_reducible refine (ip_Print4.calls k n a _ ha (Own.ipW_below HT.out HB6.out)).mono ?_); rintro e w7 ⟨rfl, hb⟩; have HB7 := Aside0.mk (HB6.out.trans (hb.mono HB6.out.size)); have HRp_7 := Aside0.mk (blk_below HRp_6.out hb); have HRq_7 := Aside0.mk (blk_below HRq_6.out hb); clear hb HB6 HRp_6 HRq_6; have T7 := Aside0.mk trivial) | (clear T7; go_at_call 16; (with_reducible refine (ip_Ends.calls k a true _ he).mono ?_); rintro e w8 ⟨rfl, hb⟩; have HB8 := Aside0.mk (HB7.out.trans (hb.mono HB7.out.size)); have HRp_8 := Aside0.mk (blk_below HRp_7.out hb); have HRq_8 := Aside0.mk (blk_below HRq_7.out hb); clear hb HB7 HRp_7 HRq_7; have T8 := Aside0.mk trivial) | (clear T8; go_at_call 13; (with_reducible refine (ip_Parse4.calls k s b1 0 _ hb).mono ?_); rintro e w9 ⟨rfl, hb⟩; have HB9 := Aside0.mk (HB8.out.trans (hb.mono HB8.out.size)); have HRp_9 := Aside0.mk (blk_below HRp_8.out hb); have HRq_9 := Aside0.mk (blk_below HRq_8.out hb); clear hb HB8 HRp_8 HRq_8; have T9 := Aside0.mk trivial) | (clear T9; go_at_call 18; (with_reducible refine (ip_Print4.calls k b1 bt _ hbt (Own.ipW_below HT.out HB9.out)).mono ?_); rintro e w10 ⟨rfl, hb⟩; have HB10 := Aside0.mk (HB9.out.trans (hb.mono HB9.out.size)); have HRp_10 := Aside0.mk (blk_below HRp_9.out hb); have HRq_10 := Aside0.mk (blk_below HRq_9.out hb); clear hb HB9 HRp_9 HRq_9; have T10 := Aside0.mk trivial) | (clear T10; go_at_call 13; (with_reducible refine (ip_Parse4.calls k bt b1 0 _ hc).mono ?_); rintro e w11 ⟨rfl, hb⟩; have HB11 := Aside0.mk (HB10.out.trans (hb.mono HB10.out.size)); have HRp_11 := Aside0.mk (blk_below HRp_10.out hb); have HRq_11 := Aside0.mk (blk_below HRq_10.out hb); clear hb HB10 HRp_10 HRq_10; have T11 := Aside0.mk trivial) | (clear T11; go_at_call 12; (with_reducible refine (ip_Parse6.gcalls k s zero8 u2 _ hu6 (Own.ipW_below HT.out HB11.out)).mono ?_); rintro e w12 ⟨rfl, hb⟩; have HB12 := Aside0.mk (HB11.out.trans (hb.mono HB11.out.size)); have HRp_12 := Aside0.mk (blk_below HRp_11.out hb); have HRq_12 := Aside0.mk (blk_below HRq_11.out hb); clear hb HB11 HRp_11 HRq_11; have T12 := Aside0.mk trivial) | (clear T12; (with_reducible refine gate_store (t := 23) (p := 15) rfl ?_); refine wpList_store_row rfl 23 (.tmp 15) (.tmp 73) rfl w12.heap.size (arrV zero8) rfl rfl 23 (arrV zero8) (blk_new _ _) hi0 rfl (arr_one _) ?_; rw [show (w12.alloc (.cells #[Value.int IntKind.u16 0, Value.int IntKind.u16 0, Value.int IntKind.u16 0, Value.int IntKind.u16 0, Value.int IntKind.u16 0, Value.int IntKind.u16 0, Value.int IntKind.u16 0, Value.int IntKind.u16 0] 23)).setRow w12.heap.size (arrV zero8) = w12.alloc (.cells (arrV zero8) 23) from Own.alloc_setRow _ _ _ _]; obtain ⟨w13, hw⟩ : ∃ v, v = w12.alloc (.cells (arrV zero8) 23) := ⟨_, rfl⟩; rw [← hw]; have HB13 := Aside0.mk (hw ▸ below_alloc HB12.out _ : Below w.heap.size w w13); have HRp_13 := Aside0.mk (hw ▸ blk_alloc HRp_12.out _ : w13.heap[w.heap.size]? = some (.cells (arrV p) 23 (0, 0))); have HRq_13 := Aside0.mk (hw ▸ blk_alloc HRq_12.out _ : w13.heap[w5.heap.size]? = some (.cells (arrV p) 23 (0, 0))); have HRu_13 := Aside0.mk (hw ▸ blk_new w12 _ : w13.heap[w12.heap.size]? = some (.cells (arrV zero8) 23 (0, 0))); clear hw HB12 HRp_12 HRq_12; have T13 := Aside0.mk trivial) | ((with_reducible refine gate_dst (N := 76) rfl ?_); refine gate_guard (by rfl) ?_; refine wpList_load_row rfl 23 (.tmp 15) rfl w12.heap.size rfl 23 (arrV zero8) (0, 0) _ HRu_13.out hu rfl hiu.out ?_) | (clear T13; go_at_call 10; (with_reducible refine (ip_Print6.gcalls k zero8 ut _ hut (Own.ipW_below HT.out HB13.out)).mono ?_); rintro e w14 ⟨rfl, hb⟩; have HB14 := Aside0.mk (HB13.out.trans (hb.mono HB13.out.size)); have HRp_14 := Aside0.mk (blk_below HRp_13.out hb); have HRq_14 := Aside0.mk (blk_below HRq_13.out hb); have HRu_14 := Aside0.mk (blk_below HRu_13.out hb); clear hb HB13 HRp_13 HRq_13 HRu_13; have T14 := Aside0.mk trivial) | (clear T14; go_at_call 12; (with_reducible refine (ip_Parse6.gcalls k ut zero8 0 _ hv (Own.ipW_below HT.out HB14.out)).mono ?_); rintro e w15 ⟨rfl, hb⟩; have HB15 := Aside0.mk (HB14.out.trans (hb.mono HB14.out.size)); have HRp_15 := Aside0.mk (blk_below HRp_14.out hb); have HRq_15 := Aside0.mk (blk_below HRq_14.out hb); have HRu_15 := Aside0.mk (blk_below HRu_14.out hb); clear hb HB14 HRp_14 HRq_14 HRu_14; have T15 := Aside0.mk trivial) | (clear T15; (with_reducible refine gate_store (t := 23) (p := 17) rfl ?_); refine wpList_store_row rfl 23 (.tmp 17) (.tmp 79) rfl w15.heap.size (arrV zero8) rfl rfl 23 (arrV zero8) (blk_new _ _) hi0 rfl (arr_one _) ?_; rw [show (w15.alloc (.cells #[Value.int IntKind.u16 0, Value.int IntKind.u16 0, Value.int IntKind.u16 0, Value.int IntKind.u16 0, Value.int IntKind.u16 0, Value.int IntKind.u16 0, Value.int IntKind.u16 0, Value.int IntKind.u16 0] 23)).setRow w15.heap.size (arrV zero8) = w15.alloc (.cells (arrV zero8) 23) from Own.alloc_setRow _ _ _ _]; obtain ⟨w16, hw⟩ : ∃ v, v = w15.alloc (.cells (arrV zero8) 23) := ⟨_, rfl⟩; rw [← hw]; have HB16 := Aside0.mk (hw ▸ below_alloc HB15.out _ : Below w.heap.size w w16); have HRp_16 := Aside0.mk (hw ▸ blk_alloc HRp_15.out _ : w16.heap[w.heap.size]? = some (.cells (arrV p) 23 (0, 0))); have HRq_16 := Aside0.mk (hw ▸ blk_alloc HRq_15.out _ : w16.heap[w5.heap.size]? = some (.cells (arrV p) 23 (0, 0))); have HRu_16 := Aside0.mk (hw ▸ blk_alloc HRu_15.out _ : w16.heap[w12.heap.size]? = some (.cells (arrV zero8) 23 (0, 0))); have HRv_16 := Aside0.mk (hw ▸ blk_new w15 _ : w16.heap[w15.heap.size]? = some (.cells (arrV zero8) 23 (0, 0))); clear hw HB15 HRp_15 HRq_15 HRu_15; have T16 := Aside0.mk trivial) | (clear T16; go_at_call 9; (with_reducible refine (sprlaw7_first.calls 0 true _ rfl (Own.ipW_below HT.out HB16.out)).mono ?_); rintro e w17 ⟨rfl, hb⟩; have HB17 := Aside0.mk (HB16.out.trans (hb.mono HB16.out.size)); have HRp_17 := Aside0.mk (blk_below HRp_16.out hb); have HRq_17 := Aside0.mk (blk_below HRq_16.out hb); have HRu_17 := Aside0.mk (blk_below HRu_16.out hb); have HRv_17 := Aside0.mk (blk_below HRv_16.out hb); clear hb HB16 HRp_16 HRq_16 HRu_16 HRv_16; have T17 := Aside0.mk trivial) | ((with_reducible refine gate_dst (N := 103) rfl ?_); refine gate_guard (by rfl) ?_; refine wpList_load_row rfl 23 (.tmp 15) rfl w12.heap.size rfl 23 (arrV zero8) (0, 0) _ HRu_17.out hu rfl hiu.out ?_) | ((with_reducible refine gate_dst (N := 113) rfl ?_); refine gate_guard (by rfl) ?_; refine wpList_load_row rfl 23 (.tmp 17) rfl w15.heap.size rfl 23 (arrV zero8) (0, 0) _ HRv_17.out hu rfl hiu.out ?_) | ((with_reducible refine gate_dst (N := 114) rfl ?_); refine gate_guard (by rfl) ?_; refine wpList_load_row rfl 23 (.tmp 15) rfl w12.heap.size rfl 23 (arrV zero8) (0, 0) _ HRu_17.out hu rfl hiu.out ?_))
  go_ret
  exact ⟨rfl, HB17.out⟩
set_option maxHeartbeats 4000000 in
set_option maxRecDepth 100000 in
theorem sprlaw7_IpBack.w10 (k : Nat) (n : Int) (p : List Int) (s a t bt ut : ByteArray) (b1 b2 : Int) (u : List Int) (u2 : Int) (w : World) (hT : Own.ipW w) (hs : s.size ≤ 5000) (hp8 : p.length = 8) (hu8 : u.length = 8) (ha : ip_Print4.f k n = some a) (hx : ip_Parse4.f k a = some (n, 0)) (ht : ip_Print6.g k p = some t) (hq : ip_Parse6.g k t = some (p, 0)) (he : ip_Ends.f k a = some true) (hb : ip_Parse4.f k s = some (0, b2)) (hbt : ip_Print4.f k 0 = some bt) (hc : ip_Parse4.f k bt = some (0, 0)) (hu6 : ip_Parse6.g k s = some (u, 0)) (hut : ip_Print6.g k u = some ut) (hv : ip_Parse6.g k ut = some (u, 0)) (hb2 : b2 ≠ 0) :
    Calls Tryd.prog 8 #[.int .u32 n, .agg (arrV p), .string s] w fun e w' => e = .returned (.bool true) ∧ Below w.heap.size w w' := by
  have HT := Aside0.mk hT
  have hu := Tryd.underlying23
  have hi0 : (Tryd.prog.info? 23).map (·.size) = some (arrV zero8).size := by kernel_rfl
  have T0 := Aside0.mk trivial
  obtain ⟨w0, hw0⟩ : ∃ w0, w0 = w.alloc (.cells (arrV p) 23) := ⟨_, rfl⟩
  have HB0 : Aside0 (Below w.heap.size w w0) := ⟨by rw [hw0]; exact below_alloc (Below.refl _ _) _⟩
  have HRp_0 : Aside0 (w0.heap[w.heap.size]? = some (.cells (arrV p) 23 (0, 0))) := ⟨by rw [hw0]; exact blk_new _ _⟩
  have hu2' := Tryd.underlying22
  have hip : Aside0 ((Tryd.prog.info? 23).map (·.size) = some (arrV p).size) := ⟨by rw [arr_size, hp8]; kernel_rfl⟩
  have hsp : Aside0 ((arrV zero8).size = (arrV p).size) := ⟨by rw [arr_size, arr_size, hp8]; rfl⟩
  have hiu : Aside0 ((Tryd.prog.info? 23).map (·.size) = some (arrV u).size) := ⟨by rw [arr_size, hu8]; kernel_rfl⟩
  have hsu : Aside0 ((arrV zero8).size = (arrV u).size) := ⟨by rw [arr_size, arr_size, hu8]; rfl⟩
  have heqp := fun w' => arr_eq (P := Tryd.prog) (t := 23) (e := 22) (n := 8) Tryd.underlying23 Tryd.underlying22 (fun _ => by kernel_rfl) (fun _ => by kernel_rfl) 9998 p p hp8 hp8 w'
  rw [decide_eq_true (rfl : p = p)] at heqp
  have hequ := fun w' => arr_eq (P := Tryd.prog) (t := 23) (e := 22) (n := 8) Tryd.underlying23 Tryd.underlying22 (fun _ => by kernel_rfl) (fun _ => by kernel_rfl) 9998 u u hu8 hu8 w'
  rw [decide_eq_true (rfl : u = u)] at hequ
  have HP8 := Aside0.mk hp8
  have HU8 := Aside0.mk hu8
  clear hp8 hu8
  have q0 : decide ((5000 : Int) < (s.size : Int)) = false := decide_eq_false (by omega)
  have eb : (b2 == 0) = false := beq_eq_false_iff_ne.2 hb2
  go_enter Tryd.func8, Tryd.ntmps8
  go_wp2_with (first | (clear T0; go_at_call 9; rw [← hw0]; clear hw0; (with_reducible refine (sprlaw7_first.calls 0 true _ rfl (Own.ipW_below HT.out HB0.out)).mono ?_); rintro e w1 ⟨rfl, hb⟩; have HB1 := Aside0.mk (HB0.out.trans (hb.mono HB0.out.size)); have HRp_1 := Aside0.mk (blk_below HRp_0.out hb); clear hb HB0 HRp_0; have T1 := Aside0.mk trivial) | (clear T1; go_at_call 18; (with_reducible refine (ip_Print4.calls k n a _ ha (Own.ipW_below HT.out HB1.out)).mono ?_); rintro e w2 ⟨rfl, hb⟩; have HB2 := Aside0.mk (HB1.out.trans (hb.mono HB1.out.size)); have HRp_2 := Aside0.mk (blk_below HRp_1.out hb); clear hb HB1 HRp_1; have T2 := Aside0.mk trivial) | (clear T2; go_at_call 13; (with_reducible refine (ip_Parse4.calls k a n 0 _ hx).mono ?_); rintro e w3 ⟨rfl, hb⟩; have HB3 := Aside0.mk (HB2.out.trans (hb.mono HB2.out.size)); have HRp_3 := Aside0.mk (blk_below HRp_2.out hb); clear hb HB2 HRp_2; have T3 := Aside0.mk trivial) | ((with_reducible refine gate_dst (N := 32) rfl ?_); refine gate_guard (by rfl) ?_; refine wpList_load_row rfl 23 (.tmp 4) rfl w.heap.size rfl 23 (arrV p) (0, 0) _ HRp_3.out hu rfl hip.out ?_) | (clear T3; go_at_call 10; (with_reducible refine (ip_Print6.gcalls k p t _ ht (Own.ipW_below HT.out HB3.out)).mono ?_); rintro e w4 ⟨rfl, hb⟩; have HB4 := Aside0.mk (HB3.out.trans (hb.mono HB3.out.size)); have HRp_4 := Aside0.mk (blk_below HRp_3.out hb); clear hb HB3 HRp_3; have T4 := Aside0.mk trivial) | (clear T4; go_at_call 12; (with_reducible refine (ip_Parse6.gcalls k t p 0 _ hq (Own.ipW_below HT.out HB4.out)).mono ?_); rintro e w5 ⟨rfl, hb⟩; have HB5 := Aside0.mk (HB4.out.trans (hb.mono HB4.out.size)); have HRp_5 := Aside0.mk (blk_below HRp_4.out hb); clear hb HB4 HRp_4; have T5 := Aside0.mk trivial) | (clear T5; (with_reducible refine gate_store (t := 23) (p := 9) rfl ?_); refine wpList_store_row rfl 23 (.tmp 9) (.tmp 35) rfl w5.heap.size (arrV p) rfl rfl 23 (arrV zero8) (blk_new _ _) hip.out hsp.out (arr_one _) ?_; rw [show (w5.alloc (.cells #[Value.int IntKind.u16 0, Value.int IntKind.u16 0, Value.int IntKind.u16 0, Value.int IntKind.u16 0, Value.int IntKind.u16 0, Value.int IntKind.u16 0, Value.int IntKind.u16 0, Value.int IntKind.u16 0] 23)).setRow w5.heap.size (arrV p) = w5.alloc (.cells (arrV p) 23) from Own.alloc_setRow _ _ _ _]; obtain ⟨w6, hw⟩ : ∃ v, v = w5.alloc (.cells (arrV p) 23) := ⟨_, rfl⟩; rw [← hw]; have HB6 := Aside0.mk (hw ▸ below_alloc HB5.out _ : Below w.heap.size w w6); have HRp_6 := Aside0.mk (hw ▸ blk_alloc HRp_5.out _ : w6.heap[w.heap.size]? = some (.cells (arrV p) 23 (0, 0))); have HRq_6 := Aside0.mk (hw ▸ blk_new w5 _ : w6.heap[w5.heap.size]? = some (.cells (arrV p) 23 (0, 0))); clear hw HB5 HRp_5; have T6 := Aside0.mk trivial) | ((with_reducible refine gate_dst (N := 49) rfl ?_); refine gate_guard (by rfl) ?_; refine wpList_load_row rfl 23 (.tmp 9) rfl w5.heap.size rfl 23 (arrV p) (0, 0) _ HRq_6.out hu rfl hip.out ?_) | ((with_reducible refine gate_dst (N := 50) rfl ?_); refine gate_guard (by rfl) ?_; refine wpList_load_row rfl 23 (.tmp 4) rfl w.heap.size rfl 23 (arrV p) (0, 0) _ HRp_6.out hu rfl hip.out ?_) | (clear T6; go_at_call 18; (with_reducible refine (ip_Print4.calls k n a _ ha (Own.ipW_below HT.out HB6.out)).mono ?_); rintro e w7 ⟨rfl, hb⟩; have HB7 := Aside0.mk (HB6.out.trans (hb.mono HB6.out.size)); have HRp_7 := Aside0.mk (blk_below HRp_6.out hb); have HRq_7 := Aside0.mk (blk_below HRq_6.out hb); clear hb HB6 HRp_6 HRq_6; have T7 := Aside0.mk trivial) | (clear T7; go_at_call 16; (with_reducible refine (ip_Ends.calls k a true _ he).mono ?_); rintro e w8 ⟨rfl, hb⟩; have HB8 := Aside0.mk (HB7.out.trans (hb.mono HB7.out.size)); have HRp_8 := Aside0.mk (blk_below HRp_7.out hb); have HRq_8 := Aside0.mk (blk_below HRq_7.out hb); clear hb HB7 HRp_7 HRq_7; have T8 := Aside0.mk trivial) | (clear T8; go_at_call 13; (with_reducible refine (ip_Parse4.calls k s 0 b2 _ hb).mono ?_); rintro e w9 ⟨rfl, hb⟩; have HB9 := Aside0.mk (HB8.out.trans (hb.mono HB8.out.size)); have HRp_9 := Aside0.mk (blk_below HRp_8.out hb); have HRq_9 := Aside0.mk (blk_below HRq_8.out hb); clear hb HB8 HRp_8 HRq_8; have T9 := Aside0.mk trivial) | (clear T9; go_at_call 18; (with_reducible refine (ip_Print4.calls k 0 bt _ hbt (Own.ipW_below HT.out HB9.out)).mono ?_); rintro e w10 ⟨rfl, hb⟩; have HB10 := Aside0.mk (HB9.out.trans (hb.mono HB9.out.size)); have HRp_10 := Aside0.mk (blk_below HRp_9.out hb); have HRq_10 := Aside0.mk (blk_below HRq_9.out hb); clear hb HB9 HRp_9 HRq_9; have T10 := Aside0.mk trivial) | (clear T10; go_at_call 13; (with_reducible refine (ip_Parse4.calls k bt 0 0 _ hc).mono ?_); rintro e w11 ⟨rfl, hb⟩; have HB11 := Aside0.mk (HB10.out.trans (hb.mono HB10.out.size)); have HRp_11 := Aside0.mk (blk_below HRp_10.out hb); have HRq_11 := Aside0.mk (blk_below HRq_10.out hb); clear hb HB10 HRp_10 HRq_10; have T11 := Aside0.mk trivial) | (clear T11; go_at_call 12; (with_reducible refine (ip_Parse6.gcalls k s u 0 _ hu6 (Own.ipW_below HT.out HB11.out)).mono ?_); rintro e w12 ⟨rfl, hb⟩; have HB12 := Aside0.mk (HB11.out.trans (hb.mono HB11.out.size)); have HRp_12 := Aside0.mk (blk_below HRp_11.out hb); have HRq_12 := Aside0.mk (blk_below HRq_11.out hb); clear hb HB11 HRp_11 HRq_11; have T12 := Aside0.mk trivial) | (clear T12; (with_reducible refine gate_store (t := 23) (p := 15) rfl ?_); refine wpList_store_row rfl 23 (.tmp 15) (.tmp 73) rfl w12.heap.size (arrV u) rfl rfl 23 (arrV zero8) (blk_new _ _) hiu.out hsu.out (arr_one _) ?_; rw [show (w12.alloc (.cells #[Value.int IntKind.u16 0, Value.int IntKind.u16 0, Value.int IntKind.u16 0, Value.int IntKind.u16 0, Value.int IntKind.u16 0, Value.int IntKind.u16 0, Value.int IntKind.u16 0, Value.int IntKind.u16 0] 23)).setRow w12.heap.size (arrV u) = w12.alloc (.cells (arrV u) 23) from Own.alloc_setRow _ _ _ _]; obtain ⟨w13, hw⟩ : ∃ v, v = w12.alloc (.cells (arrV u) 23) := ⟨_, rfl⟩; rw [← hw]; have HB13 := Aside0.mk (hw ▸ below_alloc HB12.out _ : Below w.heap.size w w13); have HRp_13 := Aside0.mk (hw ▸ blk_alloc HRp_12.out _ : w13.heap[w.heap.size]? = some (.cells (arrV p) 23 (0, 0))); have HRq_13 := Aside0.mk (hw ▸ blk_alloc HRq_12.out _ : w13.heap[w5.heap.size]? = some (.cells (arrV p) 23 (0, 0))); have HRu_13 := Aside0.mk (hw ▸ blk_new w12 _ : w13.heap[w12.heap.size]? = some (.cells (arrV u) 23 (0, 0))); clear hw HB12 HRp_12 HRq_12; have T13 := Aside0.mk trivial) | ((with_reducible refine gate_dst (N := 76) rfl ?_); refine gate_guard (by rfl) ?_; refine wpList_load_row rfl 23 (.tmp 15) rfl w12.heap.size rfl 23 (arrV u) (0, 0) _ HRu_13.out hu rfl hiu.out ?_) | (clear T13; go_at_call 10; (with_reducible refine (ip_Print6.gcalls k u ut _ hut (Own.ipW_below HT.out HB13.out)).mono ?_); rintro e w14 ⟨rfl, hb⟩; have HB14 := Aside0.mk (HB13.out.trans (hb.mono HB13.out.size)); have HRp_14 := Aside0.mk (blk_below HRp_13.out hb); have HRq_14 := Aside0.mk (blk_below HRq_13.out hb); have HRu_14 := Aside0.mk (blk_below HRu_13.out hb); clear hb HB13 HRp_13 HRq_13 HRu_13; have T14 := Aside0.mk trivial) | (clear T14; go_at_call 12; (with_reducible refine (ip_Parse6.gcalls k ut u 0 _ hv (Own.ipW_below HT.out HB14.out)).mono ?_); rintro e w15 ⟨rfl, hb⟩; have HB15 := Aside0.mk (HB14.out.trans (hb.mono HB14.out.size)); have HRp_15 := Aside0.mk (blk_below HRp_14.out hb); have HRq_15 := Aside0.mk (blk_below HRq_14.out hb); have HRu_15 := Aside0.mk (blk_below HRu_14.out hb); clear hb HB14 HRp_14 HRq_14 HRu_14; have T15 := Aside0.mk trivial) | (clear T15; (with_reducible refine gate_store (t := 23) (p := 17) rfl ?_); refine wpList_store_row rfl 23 (.tmp 17) (.tmp 79) rfl w15.heap.size (arrV u) rfl rfl 23 (arrV zero8) (blk_new _ _) hiu.out hsu.out (arr_one _) ?_; rw [show (w15.alloc (.cells #[Value.int IntKind.u16 0, Value.int IntKind.u16 0, Value.int IntKind.u16 0, Value.int IntKind.u16 0, Value.int IntKind.u16 0, Value.int IntKind.u16 0, Value.int IntKind.u16 0, Value.int IntKind.u16 0] 23)).setRow w15.heap.size (arrV u) = w15.alloc (.cells (arrV u) 23) from Own.alloc_setRow _ _ _ _]; obtain ⟨w16, hw⟩ : ∃ v, v = w15.alloc (.cells (arrV u) 23) := ⟨_, rfl⟩; rw [← hw]; have HB16 := Aside0.mk (hw ▸ below_alloc HB15.out _ : Below w.heap.size w w16); have HRp_16 := Aside0.mk (hw ▸ blk_alloc HRp_15.out _ : w16.heap[w.heap.size]? = some (.cells (arrV p) 23 (0, 0))); have HRq_16 := Aside0.mk (hw ▸ blk_alloc HRq_15.out _ : w16.heap[w5.heap.size]? = some (.cells (arrV p) 23 (0, 0))); have HRu_16 := Aside0.mk (hw ▸ blk_alloc HRu_15.out _ : w16.heap[w12.heap.size]? = some (.cells (arrV u) 23 (0, 0))); have HRv_16 := Aside0.mk (hw ▸ blk_new w15 _ : w16.heap[w15.heap.size]? = some (.cells (arrV u) 23 (0, 0))); clear hw HB15 HRp_15 HRq_15 HRu_15; have T16 := Aside0.mk trivial) | (clear T16; go_at_call 9; (with_reducible refine (sprlaw7_first.calls 0 true _ rfl (Own.ipW_below HT.out HB16.out)).mono ?_); rintro e w17 ⟨rfl, hb⟩; have HB17 := Aside0.mk (HB16.out.trans (hb.mono HB16.out.size)); have HRp_17 := Aside0.mk (blk_below HRp_16.out hb); have HRq_17 := Aside0.mk (blk_below HRq_16.out hb); have HRu_17 := Aside0.mk (blk_below HRu_16.out hb); have HRv_17 := Aside0.mk (blk_below HRv_16.out hb); clear hb HB16 HRp_16 HRq_16 HRu_16 HRv_16; have T17 := Aside0.mk trivial) | ((with_reducible refine gate_dst (N := 103) rfl ?_); refine gate_guard (by rfl) ?_; refine wpList_load_row rfl 23 (.tmp 15) rfl w12.heap.size rfl 23 (arrV u) (0, 0) _ HRu_17.out hu rfl hiu.out ?_) | ((with_reducible refine gate_dst (N := 113) rfl ?_); refine gate_guard (by rfl) ?_; refine wpList_load_row rfl 23 (.tmp 17) rfl w15.heap.size rfl 23 (arrV u) (0, 0) _ HRv_17.out hu rfl hiu.out ?_) | ((with_reducible refine gate_dst (N := 114) rfl ?_); refine gate_guard (by rfl) ?_; refine wpList_load_row rfl 23 (.tmp 15) rfl w12.heap.size rfl 23 (arrV u) (0, 0) _ HRu_17.out hu rfl hiu.out ?_))
  go_ret
  exact ⟨rfl, HB17.out⟩
set_option maxHeartbeats 4000000 in
set_option maxRecDepth 100000 in
theorem sprlaw7_IpBack.w11 (k : Nat) (n : Int) (p : List Int) (s a t bt ut : ByteArray) (b1 b2 : Int) (u : List Int) (u2 : Int) (w : World) (hT : Own.ipW w) (hs : s.size ≤ 5000) (hp8 : p.length = 8) (hu8 : u.length = 8) (ha : ip_Print4.f k n = some a) (hx : ip_Parse4.f k a = some (n, 0)) (ht : ip_Print6.g k p = some t) (hq : ip_Parse6.g k t = some (p, 0)) (he : ip_Ends.f k a = some true) (hb : ip_Parse4.f k s = some (0, b2)) (hbt : ip_Print4.f k 0 = some bt) (hc : ip_Parse4.f k bt = some (0, 0)) (hu6 : ip_Parse6.g k s = some (zero8, u2)) (hut : ip_Print6.g k zero8 = some ut) (hv : ip_Parse6.g k ut = some (zero8, 0)) (hb2 : b2 ≠ 0) (hu2 : u2 ≠ 0) :
    Calls Tryd.prog 8 #[.int .u32 n, .agg (arrV p), .string s] w fun e w' => e = .returned (.bool true) ∧ Below w.heap.size w w' := by
  have HT := Aside0.mk hT
  have hu := Tryd.underlying23
  have hi0 : (Tryd.prog.info? 23).map (·.size) = some (arrV zero8).size := by kernel_rfl
  have T0 := Aside0.mk trivial
  obtain ⟨w0, hw0⟩ : ∃ w0, w0 = w.alloc (.cells (arrV p) 23) := ⟨_, rfl⟩
  have HB0 : Aside0 (Below w.heap.size w w0) := ⟨by rw [hw0]; exact below_alloc (Below.refl _ _) _⟩
  have HRp_0 : Aside0 (w0.heap[w.heap.size]? = some (.cells (arrV p) 23 (0, 0))) := ⟨by rw [hw0]; exact blk_new _ _⟩
  have hu2' := Tryd.underlying22
  have hip : Aside0 ((Tryd.prog.info? 23).map (·.size) = some (arrV p).size) := ⟨by rw [arr_size, hp8]; kernel_rfl⟩
  have hsp : Aside0 ((arrV zero8).size = (arrV p).size) := ⟨by rw [arr_size, arr_size, hp8]; rfl⟩
  have hiu : Aside0 ((Tryd.prog.info? 23).map (·.size) = some (arrV zero8).size) := ⟨hi0⟩
  have heqp := fun w' => arr_eq (P := Tryd.prog) (t := 23) (e := 22) (n := 8) Tryd.underlying23 Tryd.underlying22 (fun _ => by kernel_rfl) (fun _ => by kernel_rfl) 9998 p p hp8 hp8 w'
  rw [decide_eq_true (rfl : p = p)] at heqp
  have hequ := fun w' => arr_eq (P := Tryd.prog) (t := 23) (e := 22) (n := 8) Tryd.underlying23 Tryd.underlying22 (fun _ => by kernel_rfl) (fun _ => by kernel_rfl) 9998 zero8 zero8 zero8_len zero8_len w'
  rw [decide_eq_true (rfl : zero8 = zero8)] at hequ
  have heq0 : ∀ w', (Op.equalIn (9998 + 2) 23 (.agg (arrV zero8)) (.agg #[Value.int IntKind.u16 0, Value.int IntKind.u16 0, Value.int IntKind.u16 0, Value.int IntKind.u16 0, Value.int IntKind.u16 0, Value.int IntKind.u16 0, Value.int IntKind.u16 0, Value.int IntKind.u16 0])).run Tryd.prog w' = .ok true w' := hequ
  have HP8 := Aside0.mk hp8
  have HU8 := Aside0.mk hu8
  clear hp8 hu8
  have q0 : decide ((5000 : Int) < (s.size : Int)) = false := decide_eq_false (by omega)
  have eb : (b2 == 0) = false := beq_eq_false_iff_ne.2 hb2
  have eu : (u2 == 0) = false := beq_eq_false_iff_ne.2 hu2
  go_enter Tryd.func8, Tryd.ntmps8
  go_wp2_with (first | (clear T0; go_at_call 9; rw [← hw0]; clear hw0; (with_reducible refine (sprlaw7_first.calls 0 true _ rfl (Own.ipW_below HT.out HB0.out)).mono ?_); rintro e w1 ⟨rfl, hb⟩; have HB1 := Aside0.mk (HB0.out.trans (hb.mono HB0.out.size)); have HRp_1 := Aside0.mk (blk_below HRp_0.out hb); clear hb HB0 HRp_0; have T1 := Aside0.mk trivial) | (clear T1; go_at_call 18; (with_reducible refine (ip_Print4.calls k n a _ ha (Own.ipW_below HT.out HB1.out)).mono ?_); rintro e w2 ⟨rfl, hb⟩; have HB2 := Aside0.mk (HB1.out.trans (hb.mono HB1.out.size)); have HRp_2 := Aside0.mk (blk_below HRp_1.out hb); clear hb HB1 HRp_1; have T2 := Aside0.mk trivial) | (clear T2; go_at_call 13; (with_reducible refine (ip_Parse4.calls k a n 0 _ hx).mono ?_); rintro e w3 ⟨rfl, hb⟩; have HB3 := Aside0.mk (HB2.out.trans (hb.mono HB2.out.size)); have HRp_3 := Aside0.mk (blk_below HRp_2.out hb); clear hb HB2 HRp_2; have T3 := Aside0.mk trivial) | ((with_reducible refine gate_dst (N := 32) rfl ?_); refine gate_guard (by rfl) ?_; refine wpList_load_row rfl 23 (.tmp 4) rfl w.heap.size rfl 23 (arrV p) (0, 0) _ HRp_3.out hu rfl hip.out ?_) | (clear T3; go_at_call 10; (with_reducible refine (ip_Print6.gcalls k p t _ ht (Own.ipW_below HT.out HB3.out)).mono ?_); rintro e w4 ⟨rfl, hb⟩; have HB4 := Aside0.mk (HB3.out.trans (hb.mono HB3.out.size)); have HRp_4 := Aside0.mk (blk_below HRp_3.out hb); clear hb HB3 HRp_3; have T4 := Aside0.mk trivial) | (clear T4; go_at_call 12; (with_reducible refine (ip_Parse6.gcalls k t p 0 _ hq (Own.ipW_below HT.out HB4.out)).mono ?_); rintro e w5 ⟨rfl, hb⟩; have HB5 := Aside0.mk (HB4.out.trans (hb.mono HB4.out.size)); have HRp_5 := Aside0.mk (blk_below HRp_4.out hb); clear hb HB4 HRp_4; have T5 := Aside0.mk trivial) | (clear T5; (with_reducible refine gate_store (t := 23) (p := 9) rfl ?_); refine wpList_store_row rfl 23 (.tmp 9) (.tmp 35) rfl w5.heap.size (arrV p) rfl rfl 23 (arrV zero8) (blk_new _ _) hip.out hsp.out (arr_one _) ?_; rw [show (w5.alloc (.cells #[Value.int IntKind.u16 0, Value.int IntKind.u16 0, Value.int IntKind.u16 0, Value.int IntKind.u16 0, Value.int IntKind.u16 0, Value.int IntKind.u16 0, Value.int IntKind.u16 0, Value.int IntKind.u16 0] 23)).setRow w5.heap.size (arrV p) = w5.alloc (.cells (arrV p) 23) from Own.alloc_setRow _ _ _ _]; obtain ⟨w6, hw⟩ : ∃ v, v = w5.alloc (.cells (arrV p) 23) := ⟨_, rfl⟩; rw [← hw]; have HB6 := Aside0.mk (hw ▸ below_alloc HB5.out _ : Below w.heap.size w w6); have HRp_6 := Aside0.mk (hw ▸ blk_alloc HRp_5.out _ : w6.heap[w.heap.size]? = some (.cells (arrV p) 23 (0, 0))); have HRq_6 := Aside0.mk (hw ▸ blk_new w5 _ : w6.heap[w5.heap.size]? = some (.cells (arrV p) 23 (0, 0))); clear hw HB5 HRp_5; have T6 := Aside0.mk trivial) | ((with_reducible refine gate_dst (N := 49) rfl ?_); refine gate_guard (by rfl) ?_; refine wpList_load_row rfl 23 (.tmp 9) rfl w5.heap.size rfl 23 (arrV p) (0, 0) _ HRq_6.out hu rfl hip.out ?_) | ((with_reducible refine gate_dst (N := 50) rfl ?_); refine gate_guard (by rfl) ?_; refine wpList_load_row rfl 23 (.tmp 4) rfl w.heap.size rfl 23 (arrV p) (0, 0) _ HRp_6.out hu rfl hip.out ?_) | (clear T6; go_at_call 18; (with_reducible refine (ip_Print4.calls k n a _ ha (Own.ipW_below HT.out HB6.out)).mono ?_); rintro e w7 ⟨rfl, hb⟩; have HB7 := Aside0.mk (HB6.out.trans (hb.mono HB6.out.size)); have HRp_7 := Aside0.mk (blk_below HRp_6.out hb); have HRq_7 := Aside0.mk (blk_below HRq_6.out hb); clear hb HB6 HRp_6 HRq_6; have T7 := Aside0.mk trivial) | (clear T7; go_at_call 16; (with_reducible refine (ip_Ends.calls k a true _ he).mono ?_); rintro e w8 ⟨rfl, hb⟩; have HB8 := Aside0.mk (HB7.out.trans (hb.mono HB7.out.size)); have HRp_8 := Aside0.mk (blk_below HRp_7.out hb); have HRq_8 := Aside0.mk (blk_below HRq_7.out hb); clear hb HB7 HRp_7 HRq_7; have T8 := Aside0.mk trivial) | (clear T8; go_at_call 13; (with_reducible refine (ip_Parse4.calls k s 0 b2 _ hb).mono ?_); rintro e w9 ⟨rfl, hb⟩; have HB9 := Aside0.mk (HB8.out.trans (hb.mono HB8.out.size)); have HRp_9 := Aside0.mk (blk_below HRp_8.out hb); have HRq_9 := Aside0.mk (blk_below HRq_8.out hb); clear hb HB8 HRp_8 HRq_8; have T9 := Aside0.mk trivial) | (clear T9; go_at_call 18; (with_reducible refine (ip_Print4.calls k 0 bt _ hbt (Own.ipW_below HT.out HB9.out)).mono ?_); rintro e w10 ⟨rfl, hb⟩; have HB10 := Aside0.mk (HB9.out.trans (hb.mono HB9.out.size)); have HRp_10 := Aside0.mk (blk_below HRp_9.out hb); have HRq_10 := Aside0.mk (blk_below HRq_9.out hb); clear hb HB9 HRp_9 HRq_9; have T10 := Aside0.mk trivial) | (clear T10; go_at_call 13; (with_reducible refine (ip_Parse4.calls k bt 0 0 _ hc).mono ?_); rintro e w11 ⟨rfl, hb⟩; have HB11 := Aside0.mk (HB10.out.trans (hb.mono HB10.out.size)); have HRp_11 := Aside0.mk (blk_below HRp_10.out hb); have HRq_11 := Aside0.mk (blk_below HRq_10.out hb); clear hb HB10 HRp_10 HRq_10; have T11 := Aside0.mk trivial) | (clear T11; go_at_call 12; (with_reducible refine (ip_Parse6.gcalls k s zero8 u2 _ hu6 (Own.ipW_below HT.out HB11.out)).mono ?_); rintro e w12 ⟨rfl, hb⟩; have HB12 := Aside0.mk (HB11.out.trans (hb.mono HB11.out.size)); have HRp_12 := Aside0.mk (blk_below HRp_11.out hb); have HRq_12 := Aside0.mk (blk_below HRq_11.out hb); clear hb HB11 HRp_11 HRq_11; have T12 := Aside0.mk trivial) | (clear T12; (with_reducible refine gate_store (t := 23) (p := 15) rfl ?_); refine wpList_store_row rfl 23 (.tmp 15) (.tmp 73) rfl w12.heap.size (arrV zero8) rfl rfl 23 (arrV zero8) (blk_new _ _) hi0 rfl (arr_one _) ?_; rw [show (w12.alloc (.cells #[Value.int IntKind.u16 0, Value.int IntKind.u16 0, Value.int IntKind.u16 0, Value.int IntKind.u16 0, Value.int IntKind.u16 0, Value.int IntKind.u16 0, Value.int IntKind.u16 0, Value.int IntKind.u16 0] 23)).setRow w12.heap.size (arrV zero8) = w12.alloc (.cells (arrV zero8) 23) from Own.alloc_setRow _ _ _ _]; obtain ⟨w13, hw⟩ : ∃ v, v = w12.alloc (.cells (arrV zero8) 23) := ⟨_, rfl⟩; rw [← hw]; have HB13 := Aside0.mk (hw ▸ below_alloc HB12.out _ : Below w.heap.size w w13); have HRp_13 := Aside0.mk (hw ▸ blk_alloc HRp_12.out _ : w13.heap[w.heap.size]? = some (.cells (arrV p) 23 (0, 0))); have HRq_13 := Aside0.mk (hw ▸ blk_alloc HRq_12.out _ : w13.heap[w5.heap.size]? = some (.cells (arrV p) 23 (0, 0))); have HRu_13 := Aside0.mk (hw ▸ blk_new w12 _ : w13.heap[w12.heap.size]? = some (.cells (arrV zero8) 23 (0, 0))); clear hw HB12 HRp_12 HRq_12; have T13 := Aside0.mk trivial) | ((with_reducible refine gate_dst (N := 76) rfl ?_); refine gate_guard (by rfl) ?_; refine wpList_load_row rfl 23 (.tmp 15) rfl w12.heap.size rfl 23 (arrV zero8) (0, 0) _ HRu_13.out hu rfl hiu.out ?_) | (clear T13; go_at_call 10; (with_reducible refine (ip_Print6.gcalls k zero8 ut _ hut (Own.ipW_below HT.out HB13.out)).mono ?_); rintro e w14 ⟨rfl, hb⟩; have HB14 := Aside0.mk (HB13.out.trans (hb.mono HB13.out.size)); have HRp_14 := Aside0.mk (blk_below HRp_13.out hb); have HRq_14 := Aside0.mk (blk_below HRq_13.out hb); have HRu_14 := Aside0.mk (blk_below HRu_13.out hb); clear hb HB13 HRp_13 HRq_13 HRu_13; have T14 := Aside0.mk trivial) | (clear T14; go_at_call 12; (with_reducible refine (ip_Parse6.gcalls k ut zero8 0 _ hv (Own.ipW_below HT.out HB14.out)).mono ?_); rintro e w15 ⟨rfl, hb⟩; have HB15 := Aside0.mk (HB14.out.trans (hb.mono HB14.out.size)); have HRp_15 := Aside0.mk (blk_below HRp_14.out hb); have HRq_15 := Aside0.mk (blk_below HRq_14.out hb); have HRu_15 := Aside0.mk (blk_below HRu_14.out hb); clear hb HB14 HRp_14 HRq_14 HRu_14; have T15 := Aside0.mk trivial) | (clear T15; (with_reducible refine gate_store (t := 23) (p := 17) rfl ?_); refine wpList_store_row rfl 23 (.tmp 17) (.tmp 79) rfl w15.heap.size (arrV zero8) rfl rfl 23 (arrV zero8) (blk_new _ _) hi0 rfl (arr_one _) ?_; rw [show (w15.alloc (.cells #[Value.int IntKind.u16 0, Value.int IntKind.u16 0, Value.int IntKind.u16 0, Value.int IntKind.u16 0, Value.int IntKind.u16 0, Value.int IntKind.u16 0, Value.int IntKind.u16 0, Value.int IntKind.u16 0] 23)).setRow w15.heap.size (arrV zero8) = w15.alloc (.cells (arrV zero8) 23) from Own.alloc_setRow _ _ _ _]; obtain ⟨w16, hw⟩ : ∃ v, v = w15.alloc (.cells (arrV zero8) 23) := ⟨_, rfl⟩; rw [← hw]; have HB16 := Aside0.mk (hw ▸ below_alloc HB15.out _ : Below w.heap.size w w16); have HRp_16 := Aside0.mk (hw ▸ blk_alloc HRp_15.out _ : w16.heap[w.heap.size]? = some (.cells (arrV p) 23 (0, 0))); have HRq_16 := Aside0.mk (hw ▸ blk_alloc HRq_15.out _ : w16.heap[w5.heap.size]? = some (.cells (arrV p) 23 (0, 0))); have HRu_16 := Aside0.mk (hw ▸ blk_alloc HRu_15.out _ : w16.heap[w12.heap.size]? = some (.cells (arrV zero8) 23 (0, 0))); have HRv_16 := Aside0.mk (hw ▸ blk_new w15 _ : w16.heap[w15.heap.size]? = some (.cells (arrV zero8) 23 (0, 0))); clear hw HB15 HRp_15 HRq_15 HRu_15; have T16 := Aside0.mk trivial) | (clear T16; go_at_call 9; (with_reducible refine (sprlaw7_first.calls 0 true _ rfl (Own.ipW_below HT.out HB16.out)).mono ?_); rintro e w17 ⟨rfl, hb⟩; have HB17 := Aside0.mk (HB16.out.trans (hb.mono HB16.out.size)); have HRp_17 := Aside0.mk (blk_below HRp_16.out hb); have HRq_17 := Aside0.mk (blk_below HRq_16.out hb); have HRu_17 := Aside0.mk (blk_below HRu_16.out hb); have HRv_17 := Aside0.mk (blk_below HRv_16.out hb); clear hb HB16 HRp_16 HRq_16 HRu_16 HRv_16; have T17 := Aside0.mk trivial) | ((with_reducible refine gate_dst (N := 103) rfl ?_); refine gate_guard (by rfl) ?_; refine wpList_load_row rfl 23 (.tmp 15) rfl w12.heap.size rfl 23 (arrV zero8) (0, 0) _ HRu_17.out hu rfl hiu.out ?_) | ((with_reducible refine gate_dst (N := 113) rfl ?_); refine gate_guard (by rfl) ?_; refine wpList_load_row rfl 23 (.tmp 17) rfl w15.heap.size rfl 23 (arrV zero8) (0, 0) _ HRv_17.out hu rfl hiu.out ?_) | ((with_reducible refine gate_dst (N := 114) rfl ?_); refine gate_guard (by rfl) ?_; refine wpList_load_row rfl 23 (.tmp 15) rfl w12.heap.size rfl 23 (arrV zero8) (0, 0) _ HRu_17.out hu rfl hiu.out ?_))
  go_ret
  exact ⟨rfl, HB17.out⟩
def sprlaw7_IpBack.f (k : Nat) (n : Int) (p : List Int) (s : ByteArray) : Option Bool :=
  if s.size ≤ 5000 then ((ip_Print4.f k n).bind fun a => (ip_Parse4.f k a).bind fun x => (ip_Print6.g k p).bind fun t => (ip_Parse6.g k t).bind fun q => (ip_Ends.f k a).bind fun en => (ip_Parse4.f k s).bind fun b => (ip_Print4.f k b.1).bind fun bt => (ip_Parse4.f k bt).bind fun c => (ip_Parse6.g k s).bind fun u => (ip_Print6.g k u.1).bind fun ut => (ip_Parse6.g k ut).bind fun v =>
    if p.length = 8 ∧ u.1.length = 8 ∧ x = (n, 0) ∧ q = (p, 0) ∧ en = true ∧ (b.2 = 0 ∨ b.1 = 0) ∧ c = (b.1, 0) ∧ (u.2 = 0 ∨ u.1 = zero8) ∧ v = (u.1, 0) then some true else none) else some true
theorem sprlaw7_IpBack.mono (n : Int) (p : List Int) (s : ByteArray) (k : Nat) : LeO (sprlaw7_IpBack.f k n p s) (sprlaw7_IpBack.f (k + 1) n p s) := by
  unfold sprlaw7_IpBack.f
  exact LeO.ite (LeO.bind (ip_Print4.mono _ k) fun _ => LeO.bind (ip_Parse4.mono _ k) fun _ => LeO.bind (ip_Print6.gmono _ k) fun _ => LeO.bind (ip_Parse6.gmono _ k) fun _ => LeO.bind (ip_Ends.mono _ k) fun _ => LeO.bind (ip_Parse4.mono _ k) fun _ => LeO.bind (ip_Print4.mono _ k) fun _ => LeO.bind (ip_Parse4.mono _ k) fun _ => LeO.bind (ip_Parse6.gmono _ k) fun _ => LeO.bind (ip_Print6.gmono _ k) fun _ => LeO.bind (ip_Parse6.gmono _ k) fun _ => LeO.refl _) (LeO.refl _)
theorem sprlaw7_IpBack.calls (k : Nat) (n : Int) (p : List Int) (s : ByteArray) (r : Bool) (w : World) (h : sprlaw7_IpBack.f k n p s = some r) (hT : Aside0 (r = true)) (hT0 : Own.ipW w) :
    Calls Tryd.prog 8 #[.int .u32 n, .agg (arrV p), .string s] w fun e w' => e = .returned (.bool r) ∧ Below w.heap.size w w' := by
  unfold sprlaw7_IpBack.f at h
  split at h
  · rename_i hs
    obtain ⟨a, ha, h1⟩ := Option.bind_eq_some_iff.1 h
    obtain ⟨x, hx, h2⟩ := Option.bind_eq_some_iff.1 h1
    obtain ⟨t, ht, h3⟩ := Option.bind_eq_some_iff.1 h2
    obtain ⟨q, hq, h4⟩ := Option.bind_eq_some_iff.1 h3
    obtain ⟨en, he, h5⟩ := Option.bind_eq_some_iff.1 h4
    obtain ⟨⟨b1, b2⟩, hb, h6⟩ := Option.bind_eq_some_iff.1 h5
    obtain ⟨bt, hbt, h7⟩ := Option.bind_eq_some_iff.1 h6
    obtain ⟨c, hc, h8⟩ := Option.bind_eq_some_iff.1 h7
    obtain ⟨⟨u, u2⟩, hu, h9⟩ := Option.bind_eq_some_iff.1 h8
    obtain ⟨ut, hut, h10⟩ := Option.bind_eq_some_iff.1 h9
    obtain ⟨v, hv, h11⟩ := Option.bind_eq_some_iff.1 h10
    dsimp only at hbt hut h11
    split at h11
    · rename_i hcond
      obtain ⟨hp8, hu8, rfl, rfl, rfl, hbb, rfl, huu, rfl⟩ := hcond
      obtain rfl := Option.some.inj h11
      by_cases hb2 : b2 = 0
      · subst hb2
        by_cases hu2 : u2 = 0
        · subst hu2
          exact sprlaw7_IpBack.w00 k n p s a t bt ut b1 0 u 0 w hT0 hs hp8 hu8 ha hx ht hq he hb hbt hc hu hut hv
        · obtain rfl : u = zero8 := huu.resolve_left hu2
          exact sprlaw7_IpBack.w01 k n p s a t bt ut b1 0 zero8 u2 w hT0 hs hp8 hu8 ha hx ht hq he hb hbt hc hu hut hv hu2
      · obtain rfl : b1 = 0 := hbb.resolve_left hb2
        by_cases hu2 : u2 = 0
        · subst hu2
          exact sprlaw7_IpBack.w10 k n p s a t bt ut 0 b2 u 0 w hT0 hs hp8 hu8 ha hx ht hq he hb hbt hc hu hut hv hb2
        · obtain rfl : u = zero8 := huu.resolve_left hu2
          exact sprlaw7_IpBack.w11 k n p s a t bt ut 0 b2 zero8 u2 w hT0 hs hp8 hu8 ha hx ht hq he hb hbt hc hu hut hv hb2 hu2
    · cases h11
  · rename_i hs
    obtain rfl := Option.some.inj h
    exact sprlaw7_IpBack.long n p s w hT0 hs


/-! ### sprref_Split: function 43 -/
def sprref_Split.l0 : Nat → ByteArray → Int → List ByteArray → Int → Int → Option (List ByteArray)
  | 0, _, _, _, _, _ => none
  | k + 1, x0, x1, x5, x6, x7 => if x7 ≤ (x0.size : Int) then (if x7 = (x0.size : Int) then (if 0 ≤ x6 then (if x6 ≤ x7 then (if x5.length < 8796093022208 then (sprref_Split.l0 k x0 x1 (x5 ++ [x0.extract (x6 : Int).toNat (x7 : Int).toNat]) (wrap64 (x7 + 1)) (wrap64 (x7 + 1))) else (none)) else (none)) else (none)) else (if 0 ≤ x7 then (if x7 < (x0.size : Int) then (if (bt x0 x7) = x1 then (if 0 ≤ x6 then (if x6 ≤ x7 then (if x5.length < 8796093022208 then (sprref_Split.l0 k x0 x1 (x5 ++ [x0.extract (x6 : Int).toNat (x7 : Int).toNat]) (wrap64 (x7 + 1)) (wrap64 (x7 + 1))) else (none)) else (none)) else (none)) else (sprref_Split.l0 k x0 x1 x5 x6 (wrap64 (x7 + 1)))) else (none)) else (none))) else (some x5)
def sprref_Split.f (k : Nat) (a0 : ByteArray) (a1 : Int) : Option (List ByteArray) := sprref_Split.l0 k a0 a1 ([] : List ByteArray) 0 0
theorem sprref_Split.mono_l : ∀ k, (∀ y0 y1 y2 y3 y4, LeO (sprref_Split.l0 k y0 y1 y2 y3 y4) (sprref_Split.l0 (k + 1) y0 y1 y2 y3 y4))
  | 0 => fun _ _ _ _ _ r h => by simp [sprref_Split.l0] at h
  | k + 1 => by
    have ih0 := sprref_Split.mono_l k
    · intro y0 y1 y2 y3 y4
      unfold sprref_Split.l0
      repeat' first
      | (with_reducible exact ih0 _ _ _ _ _)
      | (with_reducible exact LeO.refl _)
      | (with_reducible exact LeO.none _)
      | (with_reducible refine LeO.ite ?_ ?_)
      | (with_reducible refine LeO.bind ?_ (fun _ => ?_))
      | exact ih0 _ _ _ _ _
      | exact LeO.none _
      | refine LeO.ite ?_ ?_
      | refine LeO.bind ?_ (fun _ => ?_)
theorem sprref_Split.mono : ∀ a0 a1 k, LeO (sprref_Split.f k a0 a1) (sprref_Split.f (k + 1) a0 a1) := by
  intro a0 a1 k
  have ih0 := sprref_Split.mono_l k
  unfold sprref_Split.f
  repeat' first
      | (with_reducible exact ih0 _ _ _ _ _)
      | (with_reducible exact LeO.refl _)
      | (with_reducible exact LeO.none _)
      | (with_reducible refine LeO.ite ?_ ?_)
      | (with_reducible refine LeO.bind ?_ (fun _ => ?_))
      | exact ih0 _ _ _ _ _
      | exact LeO.none _
      | refine LeO.ite ?_ ?_
      | refine LeO.bind ?_ (fun _ => ?_)
set_option maxHeartbeats 2000000 in
set_option maxRecDepth 100000 in
theorem sprref_Split.calls (k : Nat) (a0 : ByteArray) (a1 : Int) (r : List ByteArray) (w : World) (h : sprref_Split.f k a0 a1 = some r) :
    Calls Tryd.prog 43 #[.string a0, .int .u8 a1] w fun e w' => ∃ v0_ : Value, e = .returned (v0_) ∧ Kd.R Kd.string 9 w' w.heap.size (fun _ => True) v0_ r ∧ Below w.heap.size w w' := by
  have HB := Aside0.mk (Below.refl w.heap.size w)
  have H : (sprref_Split.l0 k a0 a1 ([] : List ByteArray) 0 0) = some r := h
  clear h
  have H' := Aside0.mk H
  clear H
  go_enter Tryd.func43, Tryd.ntmps43
  go_wp2
  go_loopg [5, 6, 7] k (fun kq v5 v6 v7 w' => ∃ (x5_1 : List ByteArray) (x6_1 : Int) (x7_1 : Int), v6 = .int .i64 x6_1 ∧ v7 = .int .i64 x7_1 ∧ Aside0 (sprref_Split.l0 kq a0 a1 x5_1 x6_1 x7_1 = some r) ∧ Aside0 (kq ≤ k) ∧ Aside0 (Kd.R Kd.string 9 w' w.heap.size (fun _ => True) v5 x5_1) ∧ Aside0 (Below w.heap.size w w'))
  case atStart => exact ⟨(([] : List ByteArray)), (0), (0), (by first | rfl | (simp; done) | (simp [*]; done)), (by first | rfl | (simp; done) | (simp [*]; done)), H', ⟨Nat.le_refl _⟩, ⟨by first | exact Kd.R_nil _ _ _ _ _ | exact Kd.N_nil _ _ _ _ _ | exact Kd.V_nil _ _ _ _ _ | exact Kd.Q_nil _ _ _ _ _ | exact Kd.S_nil _ _ _ _ _⟩, ⟨by repeat (first | (with_reducible first | exact HB.out | apply below_alloc | apply pw_below_drewN | apply below_drew1) | exact HB.out)⟩⟩
  case round =>
    clear H'
    try clear p2
    obtain ⟨x5_1, x6_1, x7_1, rfl, rfl, HA, HK1, HO_5, HB⟩ := hrel
    cases gk with
    | zero => exact absurd HA.out (by simp [sprref_Split.l0])
    | succ k1 =>
      have H := HA.out
      clear HA
      simp only [sprref_Split.l0] at H
      by_cases c3 : x7_1 ≤ (a0.size : Int)
      · rw [if_pos c3] at H
        have c3b0 : decide (x7_1 ≤ (a0.size : Int)) = true := decide_eq_true c3
        clear c3
        by_cases c4 : x7_1 = (a0.size : Int)
        · rw [if_pos c4] at H
          have c4b0 : (x7_1 == (a0.size : Int)) = true := beq_iff_eq.mpr c4
          have c4b1 : (x7_1 != (a0.size : Int)) = false := bne_eq_false_iff_eq.mpr c4
          clear c4
          by_cases c5 : 0 ≤ x6_1
          · rw [if_pos c5] at H
            have c5b0 := eq_true c5
            have c5b1 : decide (0 ≤ x6_1) = true := decide_eq_true c5
            clear c5
            by_cases c6 : x6_1 ≤ x7_1
            · rw [if_pos c6] at H
              have c6b0 := eq_true c6
              have c6b1 : decide (x6_1 ≤ x7_1) = true := decide_eq_true c6
              clear c6
              have c7b0 := eq_true (of_decide_eq_true (by first | (with_reducible assumption) | assumption) : x7_1 ≤ (a0.size : Int))
              by_cases c8 : x5_1.length < 8796093022208
              · rw [if_pos c8] at H
                have LMc8 := Aside0.mk c8
                clear c8
                obtain ⟨y216, hy216⟩ : ∃ y_ : List ByteArray, y_ = (x5_1 ++ [a0.extract (x6_1 : Int).toNat (x7_1 : Int).toNat]) := ⟨_, rfl⟩
                replace H : (sprref_Split.l0 k1 a0 a1 y216 (wrap64 (x7_1 + 1)) (wrap64 (x7_1 + 1))) = some r := by first | (rw [hy216]; with_reducible exact H) | (have H2_ := (Option.bind_some _ _).symm.trans H; rw [hy216]; with_reducible exact H2_) | (have H2_ := (Option.bind_some _ _).symm.trans H; with_reducible exact H2_) | with_reducible exact H | (rw [hy216]; exact H) | exact H
                have Ny216 := Aside0.mk hy216
                clear hy216
                have H' := Aside0.mk H
                clear H
                go_wp2_with (first | ((with_reducible refine gate_builtin (b := .append) (xs := #[.tmp 25, .tmp 30]) rfl ?_); at_builtin; refine Kd.R_append Kd.string (w0 := w) w.heap.size rfl (.tmp 25) (.tmp 30) 51 9 (.string ⟨#[]⟩) 16 rfl Tryd.underlying51 info9 rfl (by decide) (by omega) u5 x5_1 (a0.extract (x6_1 : Int).toNat (x7_1 : Int).toNat) [.string (a0.extract (x6_1 : Int).toNat (x7_1 : Int).toNat)] (fun _ => True) (fun _ => False) rfl rfl ?aP (fun _ hk => hk.elim) ?aF ?aO ?aB ?aS ?aL ?_; (case aP => exact rfl); (case aB => exact (by repeat (first | (with_reducible first | exact HB.out | apply below_alloc | apply pw_below_drewN | apply below_drew1) | exact HB.out))); (case aF => exact (fun _ _ => trivial)); (case aO => exact (by (with_reducible repeat (first | apply Kd.R_alloc | apply Kd.R_drewN | apply Kd.R_drew)); exact HO_5.out)); (case aS => exact (below_size (by repeat (first | (with_reducible first | exact HB.out | apply below_alloc | apply pw_below_drewN | apply below_drew1) | exact HB.out)))); (case aL => have := LMc8.out; omega); intro v217 w9 ho hb hg hat; rw [← Ny216.out] at ho; have n0_ := Aside0.mk (hb); have n1_ := Aside0.mk (ho); clear HB; clear HO_5; have HB := n0_; have HO218 := n1_; clear n0_ n1_; clear ho hb hg hat))
                go_roundg k1
                case measure => have := HK1.out; omega
                case rel => exact ⟨(y216), (wrap64 (x7_1 + 1)), (wrap64 (x7_1 + 1)), (by first | rfl | (simp; done) | (simp [*]; done)), (by first | rfl | (simp; done) | (simp [*]; done)), H', ⟨by have := HK1.out; omega⟩, ⟨by (with_reducible repeat (first | apply Kd.R_alloc | apply Kd.R_drewN | apply Kd.R_drew)); exact HO218.out⟩, ⟨by repeat (first | (with_reducible first | exact HB.out | apply below_alloc | apply pw_below_drewN | apply below_drew1) | exact HB.out)⟩⟩
              · rw [if_neg c8] at H
                exact absurd H (by simp)
            · rw [if_neg c6] at H
              exact absurd H (by simp)
          · rw [if_neg c5] at H
            exact absurd H (by simp)
        · rw [if_neg c4] at H
          have c4b0 : (x7_1 == (a0.size : Int)) = false := beq_eq_false_iff_ne.mpr c4
          have c4b1 : (x7_1 != (a0.size : Int)) = true := bne_iff_ne.mpr c4
          by_cases c10 : 0 ≤ x7_1
          · rw [if_pos c10] at H
            have c10b0 : decide (0 ≤ x7_1) = true := decide_eq_true c10
            clear c10
            by_cases c11 : x7_1 < (a0.size : Int)
            · rw [if_pos c11] at H
              have c11b0 : decide (x7_1 < (a0.size : Int)) = true := decide_eq_true c11
              clear c11
              by_cases c13 : (bt a0 x7_1) = a1
              · rw [if_pos c13] at H
                have c13b0 : ((bt a0 x7_1) == a1) = true := beq_iff_eq.mpr c13
                have c13b1 : ((bt a0 x7_1) != a1) = false := bne_eq_false_iff_eq.mpr c13
                clear c13
                by_cases c14 : 0 ≤ x6_1
                · rw [if_pos c14] at H
                  have c14b0 := eq_true c14
                  have c14b1 : decide (0 ≤ x6_1) = true := decide_eq_true c14
                  clear c14
                  by_cases c15 : x6_1 ≤ x7_1
                  · rw [if_pos c15] at H
                    have c15b0 := eq_true c15
                    have c15b1 : decide (x6_1 ≤ x7_1) = true := decide_eq_true c15
                    clear c15
                    have c16b0 := eq_true (of_decide_eq_true (by first | (with_reducible assumption) | assumption) : x7_1 ≤ (a0.size : Int))
                    by_cases c17 : x5_1.length < 8796093022208
                    · rw [if_pos c17] at H
                      have LMc17 := Aside0.mk c17
                      clear c17
                      obtain ⟨y219, hy219⟩ : ∃ y_ : List ByteArray, y_ = (x5_1 ++ [a0.extract (x6_1 : Int).toNat (x7_1 : Int).toNat]) := ⟨_, rfl⟩
                      replace H : (sprref_Split.l0 k1 a0 a1 y219 (wrap64 (x7_1 + 1)) (wrap64 (x7_1 + 1))) = some r := by first | (rw [hy219]; with_reducible exact H) | (have H2_ := (Option.bind_some _ _).symm.trans H; rw [hy219]; with_reducible exact H2_) | (have H2_ := (Option.bind_some _ _).symm.trans H; with_reducible exact H2_) | with_reducible exact H | (rw [hy219]; exact H) | exact H
                      have Ny219 := Aside0.mk hy219
                      clear hy219
                      have H' := Aside0.mk H
                      clear H
                      have p12 : 0 ≤ (x7_1 : Int) := of_decide_eq_true (by first | (with_reducible assumption) | assumption)
                      have q12 : x7_1 < (a0.size : Int) := of_decide_eq_true (by first | (with_reducible assumption) | assumption)
                      have hx12 := bt_at a0 x7_1
                      replace p12 := eq_true p12
                      replace q12 := eq_true q12
                      go_wp2_with (first | ((with_reducible refine gate_builtin (b := .append) (xs := #[.tmp 25, .tmp 30]) rfl ?_); at_builtin; refine Kd.R_append Kd.string (w0 := w) w.heap.size rfl (.tmp 25) (.tmp 30) 51 9 (.string ⟨#[]⟩) 16 rfl Tryd.underlying51 info9 rfl (by decide) (by omega) u5 x5_1 (a0.extract (x6_1 : Int).toNat (x7_1 : Int).toNat) [.string (a0.extract (x6_1 : Int).toNat (x7_1 : Int).toNat)] (fun _ => True) (fun _ => False) rfl rfl ?aP (fun _ hk => hk.elim) ?aF ?aO ?aB ?aS ?aL ?_; (case aP => exact rfl); (case aB => exact (by repeat (first | (with_reducible first | exact HB.out | apply below_alloc | apply pw_below_drewN | apply below_drew1) | exact HB.out))); (case aF => exact (fun _ _ => trivial)); (case aO => exact (by (with_reducible repeat (first | apply Kd.R_alloc | apply Kd.R_drewN | apply Kd.R_drew)); exact HO_5.out)); (case aS => exact (below_size (by repeat (first | (with_reducible first | exact HB.out | apply below_alloc | apply pw_below_drewN | apply below_drew1) | exact HB.out)))); (case aL => have := LMc17.out; omega); intro v220 w18 ho hb hg hat; rw [← Ny219.out] at ho; have n0_ := Aside0.mk (hb); have n1_ := Aside0.mk (ho); clear HB; clear HO_5; have HB := n0_; have HO221 := n1_; clear n0_ n1_; clear ho hb hg hat))
                      go_roundg k1
                      case measure => have := HK1.out; omega
                      case rel => exact ⟨(y219), (wrap64 (x7_1 + 1)), (wrap64 (x7_1 + 1)), (by first | rfl | (simp; done) | (simp [*]; done)), (by first | rfl | (simp; done) | (simp [*]; done)), H', ⟨by have := HK1.out; omega⟩, ⟨by (with_reducible repeat (first | apply Kd.R_alloc | apply Kd.R_drewN | apply Kd.R_drew)); exact HO221.out⟩, ⟨by repeat (first | (with_reducible first | exact HB.out | apply below_alloc | apply pw_below_drewN | apply below_drew1) | exact HB.out)⟩⟩
                    · rw [if_neg c17] at H
                      exact absurd H (by simp)
                  · rw [if_neg c15] at H
                    exact absurd H (by simp)
                · rw [if_neg c14] at H
                  exact absurd H (by simp)
              · rw [if_neg c13] at H
                have c13b0 : ((bt a0 x7_1) == a1) = false := beq_eq_false_iff_ne.mpr c13
                have c13b1 : ((bt a0 x7_1) != a1) = true := bne_iff_ne.mpr c13
                have H' := Aside0.mk H
                clear H
                have p12 : 0 ≤ (x7_1 : Int) := of_decide_eq_true (by first | (with_reducible assumption) | assumption)
                have q12 : x7_1 < (a0.size : Int) := of_decide_eq_true (by first | (with_reducible assumption) | assumption)
                have hx12 := bt_at a0 x7_1
                replace p12 := eq_true p12
                replace q12 := eq_true q12
                go_wp2
                go_roundg k1
                case measure => have := HK1.out; omega
                case rel => exact ⟨(x5_1), (x6_1), (wrap64 (x7_1 + 1)), (by first | rfl | (simp; done) | (simp [*]; done)), (by first | rfl | (simp; done) | (simp [*]; done)), H', ⟨by have := HK1.out; omega⟩, ⟨by (with_reducible repeat (first | apply Kd.R_alloc | apply Kd.R_drewN | apply Kd.R_drew)); exact HO_5.out⟩, ⟨by repeat (first | (with_reducible first | exact HB.out | apply below_alloc | apply pw_below_drewN | apply below_drew1) | exact HB.out)⟩⟩
            · rw [if_neg c11] at H
              exact absurd H (by simp)
          · rw [if_neg c10] at H
            exact absurd H (by simp)
      · rw [if_neg c3] at H
        have c3b0 : decide (x7_1 ≤ (a0.size : Int)) = false := decide_eq_false c3
        clear c3
        obtain rfl := Option.some.inj H
        go_wp2
        go_ret
        exact ⟨_, by first | rfl | (simp [errW_none, errW_some] <;> rfl) | (simp [*, errW_none, errW_some] <;> rfl), by (with_reducible repeat (first | apply Kd.R_alloc | apply Kd.R_drewN | apply Kd.R_drew)); exact HO_5.out, by repeat (first | (with_reducible first | exact HB.out | apply below_alloc | apply pw_below_drewN | apply below_drew1) | exact HB.out)⟩

/-! ### sprref7_parts: function 27 -/
def sprref7_parts.f (k : Nat) (a0 : ByteArray) : Option (List ByteArray) := (sprref_Split.f k a0 46).bind fun t222 => (if (t222.length : Int) > 1 then (if 0 ≤ (wrap64 ((t222.length : Int) - 1)) then (if (wrap64 ((t222.length : Int) - 1)) < (t222.length : Int) then (if (rdOf ByteArray.empty t222 (wrap64 ((t222.length : Int) - 1))).toList = ([] : List UInt8) then (if (wrap64 ((t222.length : Int) - 1)) ≤ (t222.length : Int) then (some (t222.take ((wrap64 ((t222.length : Int) - 1)) : Int).toNat)) else (none)) else (some t222)) else (none)) else (none)) else (some t222))
theorem sprref7_parts.mono : ∀ a0 k, LeO (sprref7_parts.f k a0) (sprref7_parts.f (k + 1) a0) := by
  intro a0 k
  unfold sprref7_parts.f
  repeat' first
      | (with_reducible exact sprref_Split.mono _ _ _)
      | (with_reducible exact LeO.refl _)
      | (with_reducible exact LeO.none _)
      | (with_reducible refine LeO.ite ?_ ?_)
      | (with_reducible refine LeO.bind ?_ (fun _ => ?_))
      | exact sprref_Split.mono _ _ _
      | exact LeO.none _
      | refine LeO.ite ?_ ?_
      | refine LeO.bind ?_ (fun _ => ?_)
set_option maxHeartbeats 2000000 in
set_option maxRecDepth 100000 in
theorem sprref7_parts.calls (k : Nat) (a0 : ByteArray) (r : List ByteArray) (w : World) (h : sprref7_parts.f k a0 = some r) :
    Calls Tryd.prog 27 #[.string a0] w fun e w' => ∃ v0_ : Value, e = .returned (v0_) ∧ Kd.R Kd.string 9 w' w.heap.size (fun _ => True) v0_ r ∧ Below w.heap.size w w' := by
  have HB := Aside0.mk (Below.refl w.heap.size w)
  have H : ((sprref_Split.f k a0 46).bind fun t222 => (if (t222.length : Int) > 1 then (if 0 ≤ (wrap64 ((t222.length : Int) - 1)) then (if (wrap64 ((t222.length : Int) - 1)) < (t222.length : Int) then (if (rdOf ByteArray.empty t222 (wrap64 ((t222.length : Int) - 1))).toList = ([] : List UInt8) then (if (wrap64 ((t222.length : Int) - 1)) ≤ (t222.length : Int) then (some (t222.take ((wrap64 ((t222.length : Int) - 1)) : Int).toNat)) else (none)) else (some t222)) else (none)) else (none)) else (some t222))) = some r := h
  clear h
  replace H := Option.bind_eq_some_iff.mp H
  obtain ⟨t222, A20, H⟩ := H
  replace H : (if (t222.length : Int) > 1 then (if 0 ≤ (wrap64 ((t222.length : Int) - 1)) then (if (wrap64 ((t222.length : Int) - 1)) < (t222.length : Int) then (if (rdOf ByteArray.empty t222 (wrap64 ((t222.length : Int) - 1))).toList = ([] : List UInt8) then (if (wrap64 ((t222.length : Int) - 1)) ≤ (t222.length : Int) then (some (t222.take ((wrap64 ((t222.length : Int) - 1)) : Int).toNat)) else (none)) else (some t222)) else (none)) else (none)) else (some t222)) = some r := H
  have A2 := Aside0.mk A20
  clear A20
  by_cases c3 : (t222.length : Int) > 1
  · rw [if_pos c3] at H
    have c3b0 : decide (1 < (t222.length : Int)) = true := decide_eq_true c3
    have c3b1 : decide (1 < t222.length) = true := decide_eq_true (by omega)
    clear c3
    obtain ⟨ji4, hji4⟩ : ∃ j_ : Int, (wrap64 ((t222.length : Int) - 1)) = j_ := ⟨_, rfl⟩
    replace H : (if 0 ≤ (ji4) then (if (ji4) < (t222.length : Int) then (if (rdOf ByteArray.empty t222 (ji4)).toList = ([] : List UInt8) then (if (ji4) ≤ (t222.length : Int) then (some (t222.take ((ji4) : Int).toNat)) else (none)) else (some t222)) else (none)) else (none)) = some r := by first | (rw [hji4] at H; exact H) | (simp only [hji4] at H ⊢; exact H)
    (try rw [hji4] at A2)
    have hji4w : (IntKind.i64.wrap ((t222.length : Int) - 1)) = ji4 := (i64_w _).trans hji4
    by_cases c5 : 0 ≤ (ji4)
    · rw [if_pos c5] at H
      have c5b0 : decide (0 ≤ (ji4)) = true := decide_eq_true c5
      clear c5
      by_cases c6 : (ji4) < (t222.length : Int)
      · rw [if_pos c6] at H
        have c6b0 : decide ((ji4) < (t222.length : Int)) = true := decide_eq_true c6
        clear c6
        by_cases c7 : (rdOf ByteArray.empty t222 (ji4)).toList = ([] : List UInt8)
        · rw [if_pos c7] at H
          have c7b0 : ((rdOf ByteArray.empty t222 (ji4)).toList == ([] : List UInt8)) = true := beq_iff_eq.mpr c7
          have c7b1 : ((rdOf ByteArray.empty t222 (ji4)).toList != ([] : List UInt8)) = false := bne_eq_false_iff_eq.mpr c7
          clear c7
          by_cases c8 : (ji4) ≤ (t222.length : Int)
          · rw [if_pos c8] at H
            have c8b0 := eq_true c8
            have c8b1 : decide ((ji4) ≤ (t222.length : Int)) = true := decide_eq_true c8
            clear c8
            obtain ⟨y226, hy226⟩ : ∃ y_ : List ByteArray, y_ = (t222.take ((ji4) : Int).toNat) := ⟨_, rfl⟩
            replace H : (some y226) = some r := by first | (rw [hy226]; with_reducible exact H) | (have H2_ := (Option.bind_some _ _).symm.trans H; rw [hy226]; with_reducible exact H2_) | (have H2_ := (Option.bind_some _ _).symm.trans H; with_reducible exact H2_) | with_reducible exact H | (rw [hy226]; exact H) | exact H
            have Ny226 := Aside0.mk hy226
            clear hy226
            obtain rfl := Option.some.inj H
            (try (have e_c7b0 := c7b0; simp only [c3b0, c5b0, c6b0] at e_c7b0; simp at e_c7b0))
            go_enter Tryd.func27, Tryd.ntmps27
            go_wp2_with (first | ((with_reducible refine gate_callee (f := 43) rfl ?_); refine goesL_ (some 5) rfl rfl Tryd.func43 (by kernel_rfl) rfl #[.string a0, .int .u8 46] rfl (by (try simp only [List.map_toArray, List.map_cons, List.map_nil]); first | done | rfl | (simp only [List.length_drop, List.length_take]; rfl)) ?_; (with_reducible refine (sprref_Split.calls k a0 46 t222 _ A2.out).mono ?_); rintro e w9 ⟨v223, rfl, ho0, hb⟩; refine ⟨_, rfl, ?_⟩; have n0_ := Aside0.mk (Kd.R_lower ho0 (below_size (by repeat (first | (with_reducible first | exact HB.out | apply below_alloc | apply pw_below_drewN | apply below_drew1) | exact HB.out)))); have n1_ := Aside0.mk (below_step (by repeat (first | (with_reducible first | exact HB.out | apply below_alloc | apply pw_below_drewN | apply below_drew1) | exact HB.out)) hb); clear HB; have HO224 := n0_; have HB := n1_; clear n0_ n1_; (try clear hb); (try clear hb2); (try clear hk); (try clear hi); (try clear ho0); obtain ⟨Ao10, co10, eo10⟩ := Kd.R_slice HO224.out; subst eo10; have p225 : 0 ≤ ((ji4) : Int) := of_decide_eq_true (by first | (with_reducible assumption) | assumption); have q225 : (ji4) < (t222.length : Int) := of_decide_eq_true (by first | (with_reducible assumption) | assumption); obtain ⟨ad225, e225, hx225_0⟩ := Kd.at_string (Kd.R_reads' HO224.out).2.2 (ji4) p225 q225; cases e225; replace p225 := eq_true p225; replace q225 := eq_true q225; have q11 : ((ji4) : Int) ≤ ((t222.length : Int) : Int) := of_decide_eq_true (by first | (with_reducible assumption) | assumption); obtain ⟨i011, hi011, _, hsz11, _⟩ := info_parts info9; have hcut11 := cut_to (P := Tryd.prog) 51 9 .i64 Tryd.underlying51 hi011 (some ad225) t222.length co10 (ji4) (of_decide_eq_true (by first | (with_reducible assumption) | assumption)) q11 (Kd.R_reads' HO224.out).2.1; have hr11 := Kd.R_take (m := ((ji4) : Int).toNat) HO224.out (by omega); have hy11 : y226.length = ((ji4) : Int).toNat := (by rw [Ny226.out, List.length_take]; omega); rw [← Ny226.out] at hr11; rw [← hy11] at hr11 hcut11; clear hy11 hi011 hsz11 HO224; have HO228 := Aside0.mk hr11; clear hr11; replace q11 := eq_true q11))
            go_ret
            exact ⟨_, by first | rfl | (simp [errW_none, errW_some] <;> rfl) | (simp only [← hji4]; first | rfl | (simp [errW_none, errW_some] <;> rfl)) | (simp [*, errW_none, errW_some] <;> rfl), by (with_reducible repeat (first | apply Kd.R_alloc | apply Kd.R_drewN | apply Kd.R_drew)); exact HO228.out, by repeat (first | (with_reducible first | exact HB.out | apply below_alloc | apply pw_below_drewN | apply below_drew1) | exact HB.out)⟩
          · rw [if_neg c8] at H
            exact absurd H (by simp)
        · rw [if_neg c7] at H
          have c7b0 : ((rdOf ByteArray.empty t222 (ji4)).toList == ([] : List UInt8)) = false := beq_eq_false_iff_ne.mpr c7
          have c7b1 : ((rdOf ByteArray.empty t222 (ji4)).toList != ([] : List UInt8)) = true := bne_iff_ne.mpr c7
          obtain rfl := Option.some.inj H
          (try (have e_c7b0 := c7b0; simp only [c3b0, c5b0, c6b0] at e_c7b0; simp at e_c7b0))
          go_enter Tryd.func27, Tryd.ntmps27
          go_wp2_with (first | ((with_reducible refine gate_callee (f := 43) rfl ?_); refine goesL_ (some 5) rfl rfl Tryd.func43 (by kernel_rfl) rfl #[.string a0, .int .u8 46] rfl (by (try simp only [List.map_toArray, List.map_cons, List.map_nil]); first | done | rfl | (simp only [List.length_drop, List.length_take]; rfl)) ?_; (with_reducible refine (sprref_Split.calls k a0 46 t222 _ A2.out).mono ?_); rintro e w12 ⟨v223, rfl, ho0, hb⟩; refine ⟨_, rfl, ?_⟩; have n0_ := Aside0.mk (Kd.R_lower ho0 (below_size (by repeat (first | (with_reducible first | exact HB.out | apply below_alloc | apply pw_below_drewN | apply below_drew1) | exact HB.out)))); have n1_ := Aside0.mk (below_step (by repeat (first | (with_reducible first | exact HB.out | apply below_alloc | apply pw_below_drewN | apply below_drew1) | exact HB.out)) hb); clear HB; have HO224 := n0_; have HB := n1_; clear n0_ n1_; (try clear hb); (try clear hb2); (try clear hk); (try clear hi); (try clear ho0); obtain ⟨Ao13, co13, eo13⟩ := Kd.R_slice HO224.out; subst eo13; have p225 : 0 ≤ ((ji4) : Int) := of_decide_eq_true (by first | (with_reducible assumption) | assumption); have q225 : (ji4) < (t222.length : Int) := of_decide_eq_true (by first | (with_reducible assumption) | assumption); obtain ⟨ad225, e225, hx225_0⟩ := Kd.at_string (Kd.R_reads' HO224.out).2.2 (ji4) p225 q225; cases e225; replace p225 := eq_true p225; replace q225 := eq_true q225))
          go_ret
          exact ⟨_, by first | rfl | (simp [errW_none, errW_some] <;> rfl) | (simp only [← hji4]; first | rfl | (simp [errW_none, errW_some] <;> rfl)) | (simp [*, errW_none, errW_some] <;> rfl), by (with_reducible repeat (first | apply Kd.R_alloc | apply Kd.R_drewN | apply Kd.R_drew)); exact HO224.out, by repeat (first | (with_reducible first | exact HB.out | apply below_alloc | apply pw_below_drewN | apply below_drew1) | exact HB.out)⟩
      · rw [if_neg c6] at H
        exact absurd H (by simp)
    · rw [if_neg c5] at H
      exact absurd H (by simp)
  · rw [if_neg c3] at H
    have c3b0 : decide (1 < (t222.length : Int)) = false := decide_eq_false c3
    have c3b1 : decide (1 < t222.length) = false := decide_eq_false (by omega)
    clear c3
    obtain rfl := Option.some.inj H
    go_enter Tryd.func27, Tryd.ntmps27
    go_wp2_with (first | ((with_reducible refine gate_callee (f := 43) rfl ?_); refine goesL_ (some 5) rfl rfl Tryd.func43 (by kernel_rfl) rfl #[.string a0, .int .u8 46] rfl (by (try simp only [List.map_toArray, List.map_cons, List.map_nil]); first | done | rfl | (simp only [List.length_drop, List.length_take]; rfl)) ?_; (with_reducible refine (sprref_Split.calls k a0 46 t222 _ A2.out).mono ?_); rintro e w14 ⟨v223, rfl, ho0, hb⟩; refine ⟨_, rfl, ?_⟩; have n0_ := Aside0.mk (Kd.R_lower ho0 (below_size (by repeat (first | (with_reducible first | exact HB.out | apply below_alloc | apply pw_below_drewN | apply below_drew1) | exact HB.out)))); have n1_ := Aside0.mk (below_step (by repeat (first | (with_reducible first | exact HB.out | apply below_alloc | apply pw_below_drewN | apply below_drew1) | exact HB.out)) hb); clear HB; have HO224 := n0_; have HB := n1_; clear n0_ n1_; (try clear hb); (try clear hb2); (try clear hk); (try clear hi); (try clear ho0); obtain ⟨Ao15, co15, eo15⟩ := Kd.R_slice HO224.out; subst eo15))
    go_ret
    exact ⟨_, by first | rfl | (simp [errW_none, errW_some] <;> rfl) | (simp [*, errW_none, errW_some] <;> rfl), by (with_reducible repeat (first | apply Kd.R_alloc | apply Kd.R_drewN | apply Kd.R_drew)); exact HO224.out, by repeat (first | (with_reducible first | exact HB.out | apply below_alloc | apply pw_below_drewN | apply below_drew1) | exact HB.out)⟩

/-! ### sprref1_Digit: function 44 -/
mutual
def sprref1_Digit.j0 : Nat → Int → Bool → Option (Int)
  | 0, _, _ => none
  | k + 1, x0, x3 => if x3 = true then (some ((x0 - 48) % 256)) else (if x0 ≥ 97 then (sprref1_Digit.j1 k x0 (decide (x0 ≤ 102))) else (sprref1_Digit.j1 k x0 false))
def sprref1_Digit.j1 : Nat → Int → Bool → Option (Int)
  | 0, _, _ => none
  | k + 1, x0, x13 => if x13 = true then (some (((x0 - 97) % 256) + 10)) else (if x0 ≥ 65 then (if x0 ≤ 70 then (some (((x0 - 65) % 256) + 10)) else (some (-1))) else (some (-1)))
end
def sprref1_Digit.f (k : Nat) (a0 : Int) : Option (Int) := if a0 ≥ 48 then (sprref1_Digit.j0 k a0 (decide (a0 ≤ 57))) else (sprref1_Digit.j0 k a0 false)
theorem sprref1_Digit.mono_l : ∀ k, (∀ y0 y1, LeO (sprref1_Digit.j0 k y0 y1) (sprref1_Digit.j0 (k + 1) y0 y1)) ∧ (∀ y0 y1, LeO (sprref1_Digit.j1 k y0 y1) (sprref1_Digit.j1 (k + 1) y0 y1))
  | 0 => ⟨fun _ _ r h => by simp [sprref1_Digit.j0] at h, fun _ _ r h => by simp [sprref1_Digit.j1] at h⟩
  | k + 1 => by
    obtain ⟨ih0, ih1⟩ := sprref1_Digit.mono_l k
    refine ⟨?_, ?_⟩
    · intro y0 y1
      unfold sprref1_Digit.j0
      repeat' first
      | (with_reducible exact ih0 _ _)
      | (with_reducible exact ih1 _ _)
      | (with_reducible exact LeO.refl _)
      | (with_reducible exact LeO.none _)
      | (with_reducible refine LeO.ite ?_ ?_)
      | (with_reducible refine LeO.bind ?_ (fun _ => ?_))
      | exact ih0 _ _
      | exact ih1 _ _
      | exact LeO.none _
      | refine LeO.ite ?_ ?_
      | refine LeO.bind ?_ (fun _ => ?_)
    · intro y0 y1
      unfold sprref1_Digit.j1
      repeat' first
      | (with_reducible exact ih0 _ _)
      | (with_reducible exact ih1 _ _)
      | (with_reducible exact LeO.refl _)
      | (with_reducible exact LeO.none _)
      | (with_reducible refine LeO.ite ?_ ?_)
      | (with_reducible refine LeO.bind ?_ (fun _ => ?_))
      | exact ih0 _ _
      | exact ih1 _ _
      | exact LeO.none _
      | refine LeO.ite ?_ ?_
      | refine LeO.bind ?_ (fun _ => ?_)
theorem sprref1_Digit.mono : ∀ a0 k, LeO (sprref1_Digit.f k a0) (sprref1_Digit.f (k + 1) a0) := by
  intro a0 k
  obtain ⟨ih0, ih1⟩ := sprref1_Digit.mono_l k
  unfold sprref1_Digit.f
  repeat' first
      | (with_reducible exact ih0 _ _)
      | (with_reducible exact ih1 _ _)
      | (with_reducible exact LeO.refl _)
      | (with_reducible exact LeO.none _)
      | (with_reducible refine LeO.ite ?_ ?_)
      | (with_reducible refine LeO.bind ?_ (fun _ => ?_))
      | exact ih0 _ _
      | exact ih1 _ _
      | exact LeO.none _
      | refine LeO.ite ?_ ?_
      | refine LeO.bind ?_ (fun _ => ?_)
set_option maxHeartbeats 2000000 in
set_option maxRecDepth 100000 in
theorem sprref1_Digit.calls (k : Nat) (a0 : Int) (r : Int) (w : World) (h : sprref1_Digit.f k a0 = some r) :
    Calls Tryd.prog 44 #[.int .u8 a0] w fun e w' => e = .returned (.int .i64 r) ∧ Drawn0 w w' := by
  have H : (if a0 ≥ 48 then (sprref1_Digit.j0 k a0 (decide (a0 ≤ 57))) else (sprref1_Digit.j0 k a0 false)) = some r := h
  clear h
  have HC2 := Aside0.mk H
  clear H
  go_enter Tryd.func44, Tryd.ntmps44
  go_upto_region 1 with (fail)
  go_cut [3] (fun v3 wc => ∃ (kq : Nat) (x3_1 : Bool), v3 = .bool x3_1 ∧ Aside0 (sprref1_Digit.j0 kq a0 x3_1 = some r) ∧ Aside0 (kq ≤ k) ∧ Drawn0 w wc)
  case first =>
    have H := HC2.out
    clear HC2
    by_cases c3 : a0 ≥ 48
    · rw [if_pos c3] at H
      have c3b0 : decide (48 ≤ a0) = true := decide_eq_true c3
      clear c3
      (first | rw [c3b0] | (simp only [i64_w, i32_w]; rw [c3b0]) | skip)
      have H' := Aside0.mk H
      clear H
      go_wp2
      go_meet
      case rel => exact ⟨_, (decide (a0 ≤ 57)), (by first | rfl | (simp; done) | (simp [*]; done)), H', ⟨by first | omega | exact Nat.le_refl _⟩, by repeat (first | exact Drawn0.refl _ | apply Drawn0.step)⟩
    · rw [if_neg c3] at H
      have c3b0 : decide (48 ≤ a0) = false := decide_eq_false c3
      clear c3
      (first | rw [c3b0] | (simp only [i64_w, i32_w]; rw [c3b0]) | skip)
      have H' := Aside0.mk H
      clear H
      go_wp2
      go_meet
      case rel => exact ⟨_, (false), (by first | rfl | (simp; done) | (simp [*]; done)), H', ⟨by first | omega | exact Nat.le_refl _⟩, by repeat (first | exact Drawn0.refl _ | apply Drawn0.step)⟩
  case rest =>
    clear HC2
    try clear p2
    try clear c3
    try clear c3b0
    obtain ⟨kq, x3_1, rfl, HA, HJ1, ⟨mc1, rfl⟩⟩ := hcut
    cases kq with
    | zero => exact absurd HA.out (by simp [sprref1_Digit.j0])
    | succ kj1 =>
      have H := HA.out
      clear HA
      simp only [sprref1_Digit.j0] at H
      by_cases c4 : x3_1 = true
      · subst c4
        have H1 : (some ((a0 - 48) % 256)) = some r := by rw [if_pos rfl] at H; exact H
        clear H
        have H := H1
        clear H1
        obtain rfl := Option.some.inj H
        go_wp2
        go_ret
        exact ⟨by first | rfl | (simp; done) | (simp [*]; done), by repeat (first | exact Drawn0.refl _ | apply Drawn0.step)⟩
      · replace c4 := Bool.eq_false_iff.mpr c4
        subst c4
        have H1 : (if a0 ≥ 97 then (sprref1_Digit.j1 kj1 a0 (decide (a0 ≤ 102))) else (sprref1_Digit.j1 kj1 a0 false)) = some r := by rw [if_neg (show ¬ (false = true) by decide)] at H; exact H
        clear H
        have H := H1
        clear H1
        have HC5 := Aside0.mk H
        clear H
        go_upto_region 3 with (fail)
        go_cut [13] (fun v13 wc => ∃ (kq : Nat) (x13_4 : Bool), v13 = .bool x13_4 ∧ Aside0 (sprref1_Digit.j1 kq a0 x13_4 = some r) ∧ Aside0 (kq ≤ kj1) ∧ Drawn0 w wc)
        case first =>
          have H := HC5.out
          clear HC5
          by_cases c6 : a0 ≥ 97
          · rw [if_pos c6] at H
            have c6b0 : decide (97 ≤ a0) = true := decide_eq_true c6
            clear c6
            (first | rw [c6b0] | (simp only [i64_w, i32_w]; rw [c6b0]) | skip)
            have H' := Aside0.mk H
            clear H
            go_wp2
            go_meet
            case rel => exact ⟨_, (decide (a0 ≤ 102)), (by first | rfl | (simp; done) | (simp [*]; done)), H', ⟨by have := HJ1.out; first | omega | exact Nat.le_refl _⟩, by repeat (first | exact Drawn0.refl _ | apply Drawn0.step)⟩
          · rw [if_neg c6] at H
            have c6b0 : decide (97 ≤ a0) = false := decide_eq_false c6
            clear c6
            (first | rw [c6b0] | (simp only [i64_w, i32_w]; rw [c6b0]) | skip)
            have H' := Aside0.mk H
            clear H
            go_wp2
            go_meet
            case rel => exact ⟨_, (false), (by first | rfl | (simp; done) | (simp [*]; done)), H', ⟨by have := HJ1.out; first | omega | exact Nat.le_refl _⟩, by repeat (first | exact Drawn0.refl _ | apply Drawn0.step)⟩
        case rest =>
          clear HC5
          try clear c1
          try clear p2
          try clear c3
          try clear c3b0
          try clear c4
          try clear c6
          try clear c6b0
          try clear p2
          obtain ⟨kq, x13_4, rfl, HA, HJ4, ⟨mc4, rfl⟩⟩ := hcut
          cases kq with
          | zero => exact absurd HA.out (by simp [sprref1_Digit.j1])
          | succ kj4 =>
            have H := HA.out
            clear HA
            simp only [sprref1_Digit.j1] at H
            by_cases c7 : x13_4 = true
            · subst c7
              have H1 : (some (((a0 - 97) % 256) + 10)) = some r := by rw [if_pos rfl] at H; exact H
              clear H
              have H := H1
              clear H1
              obtain rfl := Option.some.inj H
              go_wp2
              go_ret
              exact ⟨by first | rfl | (simp; done) | (simp [*]; done), by repeat (first | exact Drawn0.refl _ | apply Drawn0.step)⟩
            · replace c7 := Bool.eq_false_iff.mpr c7
              subst c7
              have H1 : (if a0 ≥ 65 then (if a0 ≤ 70 then (some (((a0 - 65) % 256) + 10)) else (some (-1))) else (some (-1))) = some r := by rw [if_neg (show ¬ (false = true) by decide)] at H; exact H
              clear H
              have H := H1
              clear H1
              by_cases c8 : a0 ≥ 65
              · rw [if_pos c8] at H
                have c8b0 : decide (65 ≤ a0) = true := decide_eq_true c8
                clear c8
                by_cases c9 : a0 ≤ 70
                · rw [if_pos c9] at H
                  have c9b0 : decide (a0 ≤ 70) = true := decide_eq_true c9
                  clear c9
                  obtain rfl := Option.some.inj H
                  go_wp2
                  go_ret
                  exact ⟨by first | rfl | (simp; done) | (simp [*]; done), by repeat (first | exact Drawn0.refl _ | apply Drawn0.step)⟩
                · rw [if_neg c9] at H
                  have c9b0 : decide (a0 ≤ 70) = false := decide_eq_false c9
                  clear c9
                  obtain rfl := Option.some.inj H
                  go_wp2
                  go_ret
                  exact ⟨by first | rfl | (simp; done) | (simp [*]; done), by repeat (first | exact Drawn0.refl _ | apply Drawn0.step)⟩
              · rw [if_neg c8] at H
                have c8b0 : decide (65 ≤ a0) = false := decide_eq_false c8
                clear c8
                obtain rfl := Option.some.inj H
                go_wp2
                go_ret
                exact ⟨by first | rfl | (simp; done) | (simp [*]; done), by repeat (first | exact Drawn0.refl _ | apply Drawn0.step)⟩

/-! ### sprref7_digits: function 31 -/
def sprref7_digits.l0 : Nat → ByteArray → Int → Int → Option (Bool)
  | 0, _, _, _ => none
  | k + 1, x0, x1, x5 => if x5 < (x0.size : Int) then (if 0 ≤ x5 then ((sprref1_Digit.f k (bt x0 x5)).bind fun t229 => (if t229 < 0 then (some false) else (if t229 ≥ x1 then (some false) else (sprref7_digits.l0 k x0 x1 (wrap64 (x5 + 1)))))) else (none)) else (some true)
def sprref7_digits.f (k : Nat) (a0 : ByteArray) (a1 : Int) : Option (Bool) := sprref7_digits.l0 k a0 a1 0
theorem sprref7_digits.mono_l : ∀ k, (∀ y0 y1 y2, LeO (sprref7_digits.l0 k y0 y1 y2) (sprref7_digits.l0 (k + 1) y0 y1 y2))
  | 0 => fun _ _ _ r h => by simp [sprref7_digits.l0] at h
  | k + 1 => by
    have ih0 := sprref7_digits.mono_l k
    · intro y0 y1 y2
      unfold sprref7_digits.l0
      repeat' first
      | (with_reducible exact ih0 _ _ _)
      | (with_reducible exact sprref1_Digit.mono _ _)
      | (with_reducible exact LeO.refl _)
      | (with_reducible exact LeO.none _)
      | (with_reducible refine LeO.ite ?_ ?_)
      | (with_reducible refine LeO.bind ?_ (fun _ => ?_))
      | exact ih0 _ _ _
      | exact sprref1_Digit.mono _ _
      | exact LeO.none _
      | refine LeO.ite ?_ ?_
      | refine LeO.bind ?_ (fun _ => ?_)
theorem sprref7_digits.mono : ∀ a0 a1 k, LeO (sprref7_digits.f k a0 a1) (sprref7_digits.f (k + 1) a0 a1) := by
  intro a0 a1 k
  have ih0 := sprref7_digits.mono_l k
  unfold sprref7_digits.f
  repeat' first
      | (with_reducible exact ih0 _ _ _)
      | (with_reducible exact sprref1_Digit.mono _ _)
      | (with_reducible exact LeO.refl _)
      | (with_reducible exact LeO.none _)
      | (with_reducible refine LeO.ite ?_ ?_)
      | (with_reducible refine LeO.bind ?_ (fun _ => ?_))
      | exact ih0 _ _ _
      | exact sprref1_Digit.mono _ _
      | exact LeO.none _
      | refine LeO.ite ?_ ?_
      | refine LeO.bind ?_ (fun _ => ?_)
set_option maxHeartbeats 2000000 in
set_option maxRecDepth 100000 in
theorem sprref7_digits.calls (k : Nat) (a0 : ByteArray) (a1 : Int) (r : Bool) (w : World) (h : sprref7_digits.f k a0 a1 = some r) :
    Calls Tryd.prog 31 #[.string a0, .int .i64 a1] w fun e w' => e = .returned (.bool r) ∧ Drawn0 w w' := by
  have H : (sprref7_digits.l0 k a0 a1 0) = some r := h
  clear h
  have H' := Aside0.mk H
  clear H
  go_enter Tryd.func31, Tryd.ntmps31
  go_wp2
  go_loopg [5] k (fun kq v5 w' => ∃ (x5_1 : Int), v5 = .int .i64 x5_1 ∧ Aside0 (sprref7_digits.l0 kq a0 a1 x5_1 = some r) ∧ Aside0 (kq ≤ k) ∧ Drawn0 w w')
  case atStart => exact ⟨(0), (by first | rfl | (simp; done) | (simp [*]; done)), H', ⟨Nat.le_refl _⟩, by repeat (first | exact Drawn0.refl _ | apply Drawn0.step)⟩
  case round =>
    clear H'
    try clear p2
    obtain ⟨x5_1, rfl, HA, HK1, ⟨m1, rfl⟩⟩ := hrel
    cases gk with
    | zero => exact absurd HA.out (by simp [sprref7_digits.l0])
    | succ k1 =>
      have H := HA.out
      clear HA
      simp only [sprref7_digits.l0] at H
      by_cases c3 : x5_1 < (a0.size : Int)
      · rw [if_pos c3] at H
        have c3b0 : decide (x5_1 < (a0.size : Int)) = true := decide_eq_true c3
        clear c3
        by_cases c4 : 0 ≤ x5_1
        · rw [if_pos c4] at H
          have c4b0 : decide (0 ≤ x5_1) = true := decide_eq_true c4
          clear c4
          replace H := Option.bind_eq_some_iff.mp H
          obtain ⟨t229, A60, H⟩ := H
          replace H : (if t229 < 0 then (some false) else (if t229 ≥ a1 then (some false) else (sprref7_digits.l0 k1 a0 a1 (wrap64 (x5_1 + 1))))) = some r := H
          have A6 := Aside0.mk A60
          clear A60
          by_cases c7 : t229 < 0
          · rw [if_pos c7] at H
            have c7b0 : decide (t229 < 0) = true := decide_eq_true c7
            clear c7
            obtain rfl := Option.some.inj H
            have p5 : 0 ≤ (x5_1 : Int) := of_decide_eq_true (by first | (with_reducible assumption) | assumption)
            have q5 : x5_1 < (a0.size : Int) := of_decide_eq_true (by first | (with_reducible assumption) | assumption)
            have hx5 := bt_at a0 x5_1
            replace p5 := eq_true p5
            replace q5 := eq_true q5
            go_wp2_with (first | ((with_reducible refine gate_callee (f := 44) rfl ?_); refine goesL_ (some 16) rfl rfl Tryd.func44 (by kernel_rfl) rfl #[.int .u8 (bt a0 x5_1)] rfl (by (try simp only [List.map_toArray, List.map_cons, List.map_nil]); first | done | rfl | (simp only [List.length_drop, List.length_take]; rfl)) ?_; (with_reducible refine (sprref1_Digit.calls k1 (bt a0 x5_1) t229 _ A6.out).mono ?_); rintro e w' ⟨rfl, ⟨nd, rfl⟩⟩; refine ⟨_, rfl, ?_⟩))
            go_ret
            exact ⟨by first | rfl | (simp; done) | (simp [*]; done), by repeat (first | exact Drawn0.refl _ | apply Drawn0.step)⟩
          · rw [if_neg c7] at H
            have c7b0 : decide (t229 < 0) = false := decide_eq_false c7
            clear c7
            by_cases c8 : t229 ≥ a1
            · rw [if_pos c8] at H
              have c8b0 : decide (a1 ≤ t229) = true := decide_eq_true c8
              clear c8
              obtain rfl := Option.some.inj H
              have p5 : 0 ≤ (x5_1 : Int) := of_decide_eq_true (by first | (with_reducible assumption) | assumption)
              have q5 : x5_1 < (a0.size : Int) := of_decide_eq_true (by first | (with_reducible assumption) | assumption)
              have hx5 := bt_at a0 x5_1
              replace p5 := eq_true p5
              replace q5 := eq_true q5
              go_wp2_with (first | ((with_reducible refine gate_callee (f := 44) rfl ?_); refine goesL_ (some 16) rfl rfl Tryd.func44 (by kernel_rfl) rfl #[.int .u8 (bt a0 x5_1)] rfl (by (try simp only [List.map_toArray, List.map_cons, List.map_nil]); first | done | rfl | (simp only [List.length_drop, List.length_take]; rfl)) ?_; (with_reducible refine (sprref1_Digit.calls k1 (bt a0 x5_1) t229 _ A6.out).mono ?_); rintro e w' ⟨rfl, ⟨nd, rfl⟩⟩; refine ⟨_, rfl, ?_⟩))
              go_ret
              exact ⟨by first | rfl | (simp; done) | (simp [*]; done), by repeat (first | exact Drawn0.refl _ | apply Drawn0.step)⟩
            · rw [if_neg c8] at H
              have c8b0 : decide (a1 ≤ t229) = false := decide_eq_false c8
              clear c8
              have H' := Aside0.mk H
              clear H
              have p5 : 0 ≤ (x5_1 : Int) := of_decide_eq_true (by first | (with_reducible assumption) | assumption)
              have q5 : x5_1 < (a0.size : Int) := of_decide_eq_true (by first | (with_reducible assumption) | assumption)
              have hx5 := bt_at a0 x5_1
              replace p5 := eq_true p5
              replace q5 := eq_true q5
              go_wp2_with (first | ((with_reducible refine gate_callee (f := 44) rfl ?_); refine goesL_ (some 16) rfl rfl Tryd.func44 (by kernel_rfl) rfl #[.int .u8 (bt a0 x5_1)] rfl (by (try simp only [List.map_toArray, List.map_cons, List.map_nil]); first | done | rfl | (simp only [List.length_drop, List.length_take]; rfl)) ?_; (with_reducible refine (sprref1_Digit.calls k1 (bt a0 x5_1) t229 _ A6.out).mono ?_); rintro e w' ⟨rfl, ⟨nd, rfl⟩⟩; refine ⟨_, rfl, ?_⟩))
              go_roundg k1
              case measure => have := HK1.out; omega
              case rel => exact ⟨(wrap64 (x5_1 + 1)), (by first | rfl | (simp; done) | (simp [*]; done)), H', ⟨by have := HK1.out; omega⟩, by repeat (first | exact Drawn0.refl _ | apply Drawn0.step)⟩
        · rw [if_neg c4] at H
          exact absurd H (by simp)
      · rw [if_neg c3] at H
        have c3b0 : decide (x5_1 < (a0.size : Int)) = false := decide_eq_false c3
        clear c3
        obtain rfl := Option.some.inj H
        go_wp2
        go_ret
        exact ⟨by first | rfl | (simp; done) | (simp [*]; done), by repeat (first | exact Drawn0.refl _ | apply Drawn0.step)⟩

/-! ### sprref7_hex: function 32 -/
def sprref7_hex.f (a0 : ByteArray) : Option (Bool) := if (a0.size : Int) ≥ 2 then (if 0 < (a0.size : Int) then (if (bt a0 0) = 48 then (if 1 < (a0.size : Int) then (if (bt a0 1) = 120 then (some true) else (some ((bt a0 1) == 88))) else (none)) else (some false)) else (none)) else (some false)
set_option maxHeartbeats 2000000 in
set_option maxRecDepth 100000 in
theorem sprref7_hex.calls (a0 : ByteArray) (r : Bool) (w : World) (h : sprref7_hex.f a0 = some r) :
    Calls Tryd.prog 32 #[.string a0] w fun e w' => e = .returned (.bool r) ∧ Drawn0 w w' := by
  have H : (if (a0.size : Int) ≥ 2 then (if 0 < (a0.size : Int) then (if (bt a0 0) = 48 then (if 1 < (a0.size : Int) then (if (bt a0 1) = 120 then (some true) else (some ((bt a0 1) == 88))) else (none)) else (some false)) else (none)) else (some false)) = some r := h
  clear h
  by_cases c2 : (a0.size : Int) ≥ 2
  · rw [if_pos c2] at H
    have c2b0 : decide (2 ≤ (a0.size : Int)) = true := decide_eq_true c2
    have c2b1 : decide (2 ≤ a0.size) = true := decide_eq_true (by omega)
    clear c2
    by_cases c3 : 0 < (a0.size : Int)
    · rw [if_pos c3] at H
      have c3b0 : decide (0 < (a0.size : Int)) = true := decide_eq_true c3
      have c3b1 : decide (0 < a0.size) = true := decide_eq_true (by omega)
      clear c3
      by_cases c5 : (bt a0 0) = 48
      · rw [if_pos c5] at H
        have c5b0 : ((bt a0 0) == 48) = true := beq_iff_eq.mpr c5
        have c5b1 : ((bt a0 0) != 48) = false := bne_eq_false_iff_eq.mpr c5
        clear c5
        by_cases c6 : 1 < (a0.size : Int)
        · rw [if_pos c6] at H
          have c6b0 : decide (1 < (a0.size : Int)) = true := decide_eq_true c6
          have c6b1 : decide (1 < a0.size) = true := decide_eq_true (by omega)
          clear c6
          by_cases c8 : (bt a0 1) = 120
          · rw [if_pos c8] at H
            have c8b0 : ((bt a0 1) == 120) = true := beq_iff_eq.mpr c8
            have c8b1 : ((bt a0 1) != 120) = false := bne_eq_false_iff_eq.mpr c8
            clear c8
            obtain rfl := Option.some.inj H
            have p4 : 0 ≤ (0 : Int) := (by omega)
            have q4 : 0 < a0.size := (by have : (0 : Int) < (a0.size : Int) := of_decide_eq_true (by first | (with_reducible assumption) | assumption); omega)
            have hx4 : ∀ h : 0 < a0.size, ((a0[0]'h).toNat : Int) = bt a0 0 := bt_at a0 0
            clear p4
            have qi4 : (0 < (a0.size : Int)) = True := eq_true (of_decide_eq_true (by first | (with_reducible assumption) | assumption))
            replace q4 := eq_true q4
            have p7 : 0 ≤ (1 : Int) := (by omega)
            have q7 : 1 < a0.size := (by have : (1 : Int) < (a0.size : Int) := of_decide_eq_true (by first | (with_reducible assumption) | assumption); omega)
            have hx7 : ∀ h : 1 < a0.size, ((a0[1]'h).toNat : Int) = bt a0 1 := bt_at a0 1
            clear p7
            have qi7 : (1 < (a0.size : Int)) = True := eq_true (of_decide_eq_true (by first | (with_reducible assumption) | assumption))
            replace q7 := eq_true q7
            (try (have e_c5b0 := c5b0; simp only [c2b0, c3b0, c6b0, c8b0] at e_c5b0; simp at e_c5b0))
            (try (have e_c8b0 := c8b0; simp only [c2b0, c3b0, c5b0, c6b0] at e_c8b0; simp at e_c8b0))
            go_enter Tryd.func32, Tryd.ntmps32
            go_wp2
            go_ret
            exact ⟨by first | rfl | (simp; done) | (simp [*]; done), by repeat (first | exact Drawn0.refl _ | apply Drawn0.step)⟩
          · rw [if_neg c8] at H
            have c8b0 : ((bt a0 1) == 120) = false := beq_eq_false_iff_ne.mpr c8
            have c8b1 : ((bt a0 1) != 120) = true := bne_iff_ne.mpr c8
            obtain rfl := Option.some.inj H
            have p4 : 0 ≤ (0 : Int) := (by omega)
            have q4 : 0 < a0.size := (by have : (0 : Int) < (a0.size : Int) := of_decide_eq_true (by first | (with_reducible assumption) | assumption); omega)
            have hx4 : ∀ h : 0 < a0.size, ((a0[0]'h).toNat : Int) = bt a0 0 := bt_at a0 0
            clear p4
            have qi4 : (0 < (a0.size : Int)) = True := eq_true (of_decide_eq_true (by first | (with_reducible assumption) | assumption))
            replace q4 := eq_true q4
            have p7 : 0 ≤ (1 : Int) := (by omega)
            have q7 : 1 < a0.size := (by have : (1 : Int) < (a0.size : Int) := of_decide_eq_true (by first | (with_reducible assumption) | assumption); omega)
            have hx7 : ∀ h : 1 < a0.size, ((a0[1]'h).toNat : Int) = bt a0 1 := bt_at a0 1
            clear p7
            have qi7 : (1 < (a0.size : Int)) = True := eq_true (of_decide_eq_true (by first | (with_reducible assumption) | assumption))
            replace q7 := eq_true q7
            have p9 : 0 ≤ (1 : Int) := (by omega)
            have q9 : 1 < a0.size := (by have : (1 : Int) < (a0.size : Int) := of_decide_eq_true (by first | (with_reducible assumption) | assumption); omega)
            have hx9 : ∀ h : 1 < a0.size, ((a0[1]'h).toNat : Int) = bt a0 1 := bt_at a0 1
            clear p9
            have qi9 : (1 < (a0.size : Int)) = True := eq_true (of_decide_eq_true (by first | (with_reducible assumption) | assumption))
            replace q9 := eq_true q9
            (try (have e_c5b0 := c5b0; simp only [c2b0, c3b0, c6b0, c8b0] at e_c5b0; simp at e_c5b0))
            (try (have e_c8b0 := c8b0; simp only [c2b0, c3b0, c5b0, c6b0] at e_c8b0; simp at e_c8b0))
            go_enter Tryd.func32, Tryd.ntmps32
            go_wp2
            go_ret
            exact ⟨by first | rfl | (simp; done) | (simp [*]; done), by repeat (first | exact Drawn0.refl _ | apply Drawn0.step)⟩
        · rw [if_neg c6] at H
          exact absurd H (by simp)
      · rw [if_neg c5] at H
        have c5b0 : ((bt a0 0) == 48) = false := beq_eq_false_iff_ne.mpr c5
        have c5b1 : ((bt a0 0) != 48) = true := bne_iff_ne.mpr c5
        obtain rfl := Option.some.inj H
        have p4 : 0 ≤ (0 : Int) := (by omega)
        have q4 : 0 < a0.size := (by have : (0 : Int) < (a0.size : Int) := of_decide_eq_true (by first | (with_reducible assumption) | assumption); omega)
        have hx4 : ∀ h : 0 < a0.size, ((a0[0]'h).toNat : Int) = bt a0 0 := bt_at a0 0
        clear p4
        have qi4 : (0 < (a0.size : Int)) = True := eq_true (of_decide_eq_true (by first | (with_reducible assumption) | assumption))
        replace q4 := eq_true q4
        (try (have e_c5b0 := c5b0; simp only [c2b0, c3b0] at e_c5b0; simp at e_c5b0))
        go_enter Tryd.func32, Tryd.ntmps32
        go_wp2
        go_ret
        exact ⟨by first | rfl | (simp; done) | (simp [*]; done), by repeat (first | exact Drawn0.refl _ | apply Drawn0.step)⟩
    · rw [if_neg c3] at H
      exact absurd H (by simp)
  · rw [if_neg c2] at H
    have c2b0 : decide (2 ≤ (a0.size : Int)) = false := decide_eq_false c2
    have c2b1 : decide (2 ≤ a0.size) = false := decide_eq_false (by omega)
    clear c2
    obtain rfl := Option.some.inj H
    go_enter Tryd.func32, Tryd.ntmps32
    go_wp2
    go_ret
    exact ⟨by first | rfl | (simp; done) | (simp [*]; done), by repeat (first | exact Drawn0.refl _ | apply Drawn0.step)⟩

end Go.Proofs.YtldkhokpedfhdaaDoor.Q
