-- Written by a program of this session's (wip/xprint.py), out of the seat's translation.
import Derived.Test.YtldkhokpedfhdaaDoorK0
import Derived.Test.YtldkhokpedfhdaaDoorK1
import Derived.Test.YtldkhokpedfhdaaDoorK2
namespace Go.Proofs.YtldkhokpedfhdaaDoor.K
open Go.RowKit Go.Proofs.YtldkhokpedfhdaaDoorW.PrintWords Go.Proofs.YtldkhokpedfhdaaDoorW.PrintLast Go.Proofs.YtldkhokpedfhdaaDoorW.PrintMore
attribute [local go_sem] max2_int min2_int max_two min_two max_three min_three max_four min_four   -- for this text's walks alone
set_option linter.unusedVariables false
set_option linter.unusedSimpArgs false

/-! ### ip_Parse6: function 12 -/
def zero8 : List Int := [0, 0, 0, 0, 0, 0, 0, 0]
def ip_Parse6.bad (short ok fine : Bool) (l m : List Int) : Bool := !ok || !fine || (short && decide (8 ≤ l.length + m.length)) || (!short && !decide (l.length = 8))
def ip_Parse6.res (short ok fine : Bool) (l m : List Int) : List Int × Int := if ip_Parse6.bad short ok fine l m = true then (zero8, 4) else (splice (splice zero8 0 l) (8 - m.length) m, 0)
theorem zero8_len : zero8.length = 8 := rfl
theorem ip_Parse6.ok8 {short ok fine : Bool} {l m : List Int} (h : ip_Parse6.bad short ok fine l m = false) : l.length ≤ 8 := by
  unfold ip_Parse6.bad at h
  cases short <;> simp at h <;> omega
theorem ip_Parse6.len2 {l m : List Int} (hl : l.length ≤ 8) (hm : m.length ≤ 8) : (splice (splice zero8 0 l) (8 - m.length) m).length = 8 := by
  rw [length_splice _ _ _ (by rw [length_splice _ _ _ (by rw [zero8_len]; omega), zero8_len]; omega), length_splice _ _ _ (by rw [zero8_len]; omega), zero8_len]
theorem ip_Parse6.len (short ok fine : Bool) (l m : List Int) (hm : m.length ≤ 8) : (ip_Parse6.res short ok fine l m).1.length = 8 := by
  unfold ip_Parse6.res
  split
  · rfl
  · rename_i h
    exact ip_Parse6.len2 (ip_Parse6.ok8 (by simpa using h)) hm

theorem one_ints {xs : List Int} {k : IntKind} : ∀ v ∈ xs.map (Value.int k), v.oneCell' = true := by
  intro v hv
  obtain ⟨x, _, rfl⟩ := List.mem_map.1 hv
  rfl

set_option maxHeartbeats 2000000 in
set_option maxRecDepth 100000 in
theorem ip_Parse6.way_bad (k : Nat) (s fr bk : ByteArray) (short ok fine : Bool) (l m : List Int) (w : World) (hT : Own.ipW w) (hs : s.size ≤ 4000) (hc : strings_Cut.f s ⟨#[58, 58]⟩ = some (fr, bk, short)) (hl : ip_list.f k fr (!short) = some (l, ok)) (hm : ip_list.f k bk true = some (m, fine)) (hl9 : l.length < 4294967296) (hm9 : m.length < 4294967296) (hbad : ip_Parse6.bad short ok fine l m = true) :
    Calls Tryd.prog 12 #[.string s] w fun e w' => e = .returned (.tuple #[.agg (arrV (ip_Parse6.res short ok fine l m).1), .int .i64 (ip_Parse6.res short ok fine l m).2]) ∧ Below w.heap.size w w' := by
  have hu := Tryd.underlying23
  have hi0 : (Tryd.prog.info? 23).map (·.size) = some (arrV zero8).size := by kernel_rfl
  have HT := Aside0.mk hT
  have T0 := Aside0.mk trivial
  have q0 : decide ((4000 : Int) < (s.size : Int)) = false := decide_eq_false (by omega)
  obtain ⟨w0, hw0⟩ : ∃ w0, w0 = (w.alloc (.cells #[Value.int .u16 0, Value.int .u16 0, Value.int .u16 0, Value.int .u16 0, Value.int .u16 0, Value.int .u16 0, Value.int .u16 0, Value.int .u16 0] 23)).alloc (.cells #[Value.int .u16 0, Value.int .u16 0, Value.int .u16 0, Value.int .u16 0, Value.int .u16 0, Value.int .u16 0, Value.int .u16 0, Value.int .u16 0] 23) := ⟨_, rfl⟩
  have HB0 : Aside0 (Below w.heap.size w w0) := ⟨by rw [hw0]; exact below_alloc (below_alloc (Below.refl _ _) _) _⟩
  have HY0 : Aside0 (w0.heap[w.heap.size]? = some (.cells (arrV zero8) 23 (0, 0))) := ⟨by rw [hw0]; exact blk_alloc (blk_new _ _) _⟩
  have HZ0 : Aside0 (w0.heap[w.heap.size + 1]? = some (.cells (arrV zero8) 23 (0, 0))) := ⟨by rw [hw0]; have z := blk_new (w.alloc (.cells (arrV zero8) 23)) (.cells (arrV zero8) 23); rw [World.size_alloc] at z; exact z⟩

  have hres : ip_Parse6.res short ok fine l m = (zero8, 4) := by unfold ip_Parse6.res; rw [if_pos hbad]
  rw [hres]
  unfold ip_Parse6.bad at hbad

  have hlen : wrap64 ((l.length : Int) + (m.length : Int)) = (l.length : Int) + (m.length : Int) := by unfold wrap64; omega
  cases ok with
  | false =>
    go_enter Tryd.func12, Tryd.ntmps12
    go_wp2_with (first | (clear T0; go_at_call 23; rw [← hw0]; (with_reducible refine (strings_Cut.calls s _ fr bk _ _ hc (Own.ipW_below HT.out HB0.out)).mono ?_); rintro e w1 ⟨rfl, hb⟩; have HZ1 := Aside0.mk (blk_below HZ0.out hb); have HY1 := Aside0.mk (blk_below HY0.out hb); have HB1 := Aside0.mk (HB0.out.trans (hb.mono HB0.out.size)); clear hb HZ0 HY0 HB0 hw0; have T1 := Aside0.mk trivial) | (clear T1; go_at_call 24; (with_reducible refine (ip_list.calls k fr _ l _ _ hl).mono ?_); rintro e w2 ⟨v2, rfl, hR, hb⟩; obtain ⟨A1, c1, rfl, hlm, hS1⟩ := own_src hR; have HS1 := Aside0.mk hS1; have HZ2 := Aside0.mk (blk_below HZ1.out hb); have HY2 := Aside0.mk (blk_below HY1.out hb); have HB2 := Aside0.mk (HB1.out.trans (hb.mono HB1.out.size)); clear hb hR hS1 HZ1 HY1 HB1; have T2 := Aside0.mk trivial) | (clear T2; go_at_call 24; (with_reducible refine (ip_list.calls k bk true m _ _ hm).mono ?_); rintro e w3 ⟨v3, rfl, hR, hb⟩; obtain ⟨A2, c2, rfl, hmm, hS2⟩ := own_src hR; have HS2 := Aside0.mk hS2; have HS1' := Aside0.mk (fun h => let ⟨ad, ha, hg, hx⟩ := HS1.out h; (⟨ad, ha, src_below hx hb⟩ : ∃ ad, A1 = some ad ∧ ∀ j v, (l.map (Value.int .u16))[j]? = some v → w3.cell? (ad.add j) = some v)); have HZ3 := Aside0.mk (blk_below HZ2.out hb); have HY3 := Aside0.mk (blk_below HY2.out hb); have HB3 := Aside0.mk (HB2.out.trans (hb.mono HB2.out.size)); have HK3 := Aside0.mk (blk_lt HZ2.out); clear hb hR hS2 HZ2 HY2 HB2 HS1; have T3 := Aside0.mk trivial) | ((with_reducible refine gate_dst (N := 61) rfl ?_); refine wpList_load_row rfl 23 (.tmp 4) rfl (w.heap.size + 1) rfl 23 (arrV zero8) (0, 0) _ HZ3.out hu (by rfl) hi0 ?_) | ((with_reducible refine gate_store (t := 23) (p := 2) rfl ?_); refine wpList_store_row rfl 23 (.tmp 2) (.tmp 61) rfl w.heap.size (arrV zero8) rfl rfl 23 (arrV zero8) HY3.out hi0 rfl (arr_one _) ?_))
    refine bodyPost_ret (v := .tuple #[.agg (arrV zero8), .int .i64 4]) ?_ rfl ⟨rfl, Go.below_setRow HB3.out (Nat.le_refl _) _⟩
    exact results_arr (p := 2) (u := 3) (ty := 23) rfl _ _ w.heap.size 23 (arrV zero8) (0, 0) _ rfl (setRow_heap _ _ _ _ _ _ HY3.out) hu rfl hi0
  | true =>
  cases fine with
  | false =>
    go_enter Tryd.func12, Tryd.ntmps12
    go_wp2_with (first | (clear T0; go_at_call 23; rw [← hw0]; (with_reducible refine (strings_Cut.calls s _ fr bk _ _ hc (Own.ipW_below HT.out HB0.out)).mono ?_); rintro e w1 ⟨rfl, hb⟩; have HZ1 := Aside0.mk (blk_below HZ0.out hb); have HY1 := Aside0.mk (blk_below HY0.out hb); have HB1 := Aside0.mk (HB0.out.trans (hb.mono HB0.out.size)); clear hb HZ0 HY0 HB0 hw0; have T1 := Aside0.mk trivial) | (clear T1; go_at_call 24; (with_reducible refine (ip_list.calls k fr _ l _ _ hl).mono ?_); rintro e w2 ⟨v2, rfl, hR, hb⟩; obtain ⟨A1, c1, rfl, hlm, hS1⟩ := own_src hR; have HS1 := Aside0.mk hS1; have HZ2 := Aside0.mk (blk_below HZ1.out hb); have HY2 := Aside0.mk (blk_below HY1.out hb); have HB2 := Aside0.mk (HB1.out.trans (hb.mono HB1.out.size)); clear hb hR hS1 HZ1 HY1 HB1; have T2 := Aside0.mk trivial) | (clear T2; go_at_call 24; (with_reducible refine (ip_list.calls k bk true m _ _ hm).mono ?_); rintro e w3 ⟨v3, rfl, hR, hb⟩; obtain ⟨A2, c2, rfl, hmm, hS2⟩ := own_src hR; have HS2 := Aside0.mk hS2; have HS1' := Aside0.mk (fun h => let ⟨ad, ha, hg, hx⟩ := HS1.out h; (⟨ad, ha, src_below hx hb⟩ : ∃ ad, A1 = some ad ∧ ∀ j v, (l.map (Value.int .u16))[j]? = some v → w3.cell? (ad.add j) = some v)); have HZ3 := Aside0.mk (blk_below HZ2.out hb); have HY3 := Aside0.mk (blk_below HY2.out hb); have HB3 := Aside0.mk (HB2.out.trans (hb.mono HB2.out.size)); have HK3 := Aside0.mk (blk_lt HZ2.out); clear hb hR hS2 HZ2 HY2 HB2 HS1; have T3 := Aside0.mk trivial) | ((with_reducible refine gate_dst (N := 61) rfl ?_); refine wpList_load_row rfl 23 (.tmp 4) rfl (w.heap.size + 1) rfl 23 (arrV zero8) (0, 0) _ HZ3.out hu (by rfl) hi0 ?_) | ((with_reducible refine gate_store (t := 23) (p := 2) rfl ?_); refine wpList_store_row rfl 23 (.tmp 2) (.tmp 61) rfl w.heap.size (arrV zero8) rfl rfl 23 (arrV zero8) HY3.out hi0 rfl (arr_one _) ?_))
    refine bodyPost_ret (v := .tuple #[.agg (arrV zero8), .int .i64 4]) ?_ rfl ⟨rfl, Go.below_setRow HB3.out (Nat.le_refl _) _⟩
    exact results_arr (p := 2) (u := 3) (ty := 23) rfl _ _ w.heap.size 23 (arrV zero8) (0, 0) _ rfl (setRow_heap _ _ _ _ _ _ HY3.out) hu rfl hi0
  | true =>
  cases short with
  | true =>
    simp only [Bool.not_true] at hl
    have h8 : 8 ≤ l.length + m.length := by simpa using hbad
    have q1 : decide ((8 : Int) ≤ (l.length : Int) + (m.length : Int)) = true := decide_eq_true (by omega)
    clear hbad
    go_enter Tryd.func12, Tryd.ntmps12
    go_wp2_with (first | (clear T0; go_at_call 23; rw [← hw0]; (with_reducible refine (strings_Cut.calls s _ fr bk _ _ hc (Own.ipW_below HT.out HB0.out)).mono ?_); rintro e w1 ⟨rfl, hb⟩; have HZ1 := Aside0.mk (blk_below HZ0.out hb); have HY1 := Aside0.mk (blk_below HY0.out hb); have HB1 := Aside0.mk (HB0.out.trans (hb.mono HB0.out.size)); clear hb HZ0 HY0 HB0 hw0; have T1 := Aside0.mk trivial) | (clear T1; go_at_call 24; (with_reducible refine (ip_list.calls k fr _ l _ _ hl).mono ?_); rintro e w2 ⟨v2, rfl, hR, hb⟩; obtain ⟨A1, c1, rfl, hlm, hS1⟩ := own_src hR; have HS1 := Aside0.mk hS1; have HZ2 := Aside0.mk (blk_below HZ1.out hb); have HY2 := Aside0.mk (blk_below HY1.out hb); have HB2 := Aside0.mk (HB1.out.trans (hb.mono HB1.out.size)); clear hb hR hS1 HZ1 HY1 HB1; have T2 := Aside0.mk trivial) | (clear T2; go_at_call 24; (with_reducible refine (ip_list.calls k bk true m _ _ hm).mono ?_); rintro e w3 ⟨v3, rfl, hR, hb⟩; obtain ⟨A2, c2, rfl, hmm, hS2⟩ := own_src hR; have HS2 := Aside0.mk hS2; have HS1' := Aside0.mk (fun h => let ⟨ad, ha, hg, hx⟩ := HS1.out h; (⟨ad, ha, src_below hx hb⟩ : ∃ ad, A1 = some ad ∧ ∀ j v, (l.map (Value.int .u16))[j]? = some v → w3.cell? (ad.add j) = some v)); have HZ3 := Aside0.mk (blk_below HZ2.out hb); have HY3 := Aside0.mk (blk_below HY2.out hb); have HB3 := Aside0.mk (HB2.out.trans (hb.mono HB2.out.size)); have HK3 := Aside0.mk (blk_lt HZ2.out); clear hb hR hS2 HZ2 HY2 HB2 HS1; have T3 := Aside0.mk trivial) | ((with_reducible refine gate_dst (N := 61) rfl ?_); refine wpList_load_row rfl 23 (.tmp 4) rfl (w.heap.size + 1) rfl 23 (arrV zero8) (0, 0) _ HZ3.out hu (by rfl) hi0 ?_) | ((with_reducible refine gate_store (t := 23) (p := 2) rfl ?_); refine wpList_store_row rfl 23 (.tmp 2) (.tmp 61) rfl w.heap.size (arrV zero8) rfl rfl 23 (arrV zero8) HY3.out hi0 rfl (arr_one _) ?_))
    refine bodyPost_ret (v := .tuple #[.agg (arrV zero8), .int .i64 4]) ?_ rfl ⟨rfl, Go.below_setRow HB3.out (Nat.le_refl _) _⟩
    exact results_arr (p := 2) (u := 3) (ty := 23) rfl _ _ w.heap.size 23 (arrV zero8) (0, 0) _ rfl (setRow_heap _ _ _ _ _ _ HY3.out) hu rfl hi0
  | false =>
    simp only [Bool.not_false] at hl
    have h8 : l.length ≠ 8 := by simpa using hbad
    have q1 : ((l.length : Int) != 8) = true := bne_iff_ne.2 (by omega)
    clear hbad
    go_enter Tryd.func12, Tryd.ntmps12
    go_wp2_with (first | (clear T0; go_at_call 23; rw [← hw0]; (with_reducible refine (strings_Cut.calls s _ fr bk _ _ hc (Own.ipW_below HT.out HB0.out)).mono ?_); rintro e w1 ⟨rfl, hb⟩; have HZ1 := Aside0.mk (blk_below HZ0.out hb); have HY1 := Aside0.mk (blk_below HY0.out hb); have HB1 := Aside0.mk (HB0.out.trans (hb.mono HB0.out.size)); clear hb HZ0 HY0 HB0 hw0; have T1 := Aside0.mk trivial) | (clear T1; go_at_call 24; (with_reducible refine (ip_list.calls k fr _ l _ _ hl).mono ?_); rintro e w2 ⟨v2, rfl, hR, hb⟩; obtain ⟨A1, c1, rfl, hlm, hS1⟩ := own_src hR; have HS1 := Aside0.mk hS1; have HZ2 := Aside0.mk (blk_below HZ1.out hb); have HY2 := Aside0.mk (blk_below HY1.out hb); have HB2 := Aside0.mk (HB1.out.trans (hb.mono HB1.out.size)); clear hb hR hS1 HZ1 HY1 HB1; have T2 := Aside0.mk trivial) | (clear T2; go_at_call 24; (with_reducible refine (ip_list.calls k bk true m _ _ hm).mono ?_); rintro e w3 ⟨v3, rfl, hR, hb⟩; obtain ⟨A2, c2, rfl, hmm, hS2⟩ := own_src hR; have HS2 := Aside0.mk hS2; have HS1' := Aside0.mk (fun h => let ⟨ad, ha, hg, hx⟩ := HS1.out h; (⟨ad, ha, src_below hx hb⟩ : ∃ ad, A1 = some ad ∧ ∀ j v, (l.map (Value.int .u16))[j]? = some v → w3.cell? (ad.add j) = some v)); have HZ3 := Aside0.mk (blk_below HZ2.out hb); have HY3 := Aside0.mk (blk_below HY2.out hb); have HB3 := Aside0.mk (HB2.out.trans (hb.mono HB2.out.size)); have HK3 := Aside0.mk (blk_lt HZ2.out); clear hb hR hS2 HZ2 HY2 HB2 HS1; have T3 := Aside0.mk trivial) | ((with_reducible refine gate_dst (N := 61) rfl ?_); refine wpList_load_row rfl 23 (.tmp 4) rfl (w.heap.size + 1) rfl 23 (arrV zero8) (0, 0) _ HZ3.out hu (by rfl) hi0 ?_) | ((with_reducible refine gate_store (t := 23) (p := 2) rfl ?_); refine wpList_store_row rfl 23 (.tmp 2) (.tmp 61) rfl w.heap.size (arrV zero8) rfl rfl 23 (arrV zero8) HY3.out hi0 rfl (arr_one _) ?_))
    refine bodyPost_ret (v := .tuple #[.agg (arrV zero8), .int .i64 4]) ?_ rfl ⟨rfl, Go.below_setRow HB3.out (Nat.le_refl _) _⟩
    exact results_arr (p := 2) (u := 3) (ty := 23) rfl _ _ w.heap.size 23 (arrV zero8) (0, 0) _ rfl (setRow_heap _ _ _ _ _ _ HY3.out) hu rfl hi0

set_option maxHeartbeats 2000000 in
set_option maxRecDepth 100000 in
theorem ip_Parse6.way_good (k : Nat) (s fr bk : ByteArray) (short ok fine : Bool) (l m : List Int) (w : World) (hT : Own.ipW w) (hs : s.size ≤ 4000) (hc : strings_Cut.f s ⟨#[58, 58]⟩ = some (fr, bk, short)) (hl : ip_list.f k fr (!short) = some (l, ok)) (hm : ip_list.f k bk true = some (m, fine)) (hl9 : l.length < 4294967296) (hm9 : m.length < 4294967296) (hm8 : m.length ≤ 8) (hgood : ip_Parse6.bad short ok fine l m = false) :
    Calls Tryd.prog 12 #[.string s] w fun e w' => e = .returned (.tuple #[.agg (arrV (ip_Parse6.res short ok fine l m).1), .int .i64 (ip_Parse6.res short ok fine l m).2]) ∧ Below w.heap.size w w' := by
  have hu := Tryd.underlying23
  have hi0 : (Tryd.prog.info? 23).map (·.size) = some (arrV zero8).size := by kernel_rfl
  have HT := Aside0.mk hT
  have T0 := Aside0.mk trivial
  have q0 : decide ((4000 : Int) < (s.size : Int)) = false := decide_eq_false (by omega)
  obtain ⟨w0, hw0⟩ : ∃ w0, w0 = (w.alloc (.cells #[Value.int .u16 0, Value.int .u16 0, Value.int .u16 0, Value.int .u16 0, Value.int .u16 0, Value.int .u16 0, Value.int .u16 0, Value.int .u16 0] 23)).alloc (.cells #[Value.int .u16 0, Value.int .u16 0, Value.int .u16 0, Value.int .u16 0, Value.int .u16 0, Value.int .u16 0, Value.int .u16 0, Value.int .u16 0] 23) := ⟨_, rfl⟩
  have HB0 : Aside0 (Below w.heap.size w w0) := ⟨by rw [hw0]; exact below_alloc (below_alloc (Below.refl _ _) _) _⟩
  have HY0 : Aside0 (w0.heap[w.heap.size]? = some (.cells (arrV zero8) 23 (0, 0))) := ⟨by rw [hw0]; exact blk_alloc (blk_new _ _) _⟩
  have HZ0 : Aside0 (w0.heap[w.heap.size + 1]? = some (.cells (arrV zero8) 23 (0, 0))) := ⟨by rw [hw0]; have z := blk_new (w.alloc (.cells (arrV zero8) 23)) (.cells (arrV zero8) 23); rw [World.size_alloc] at z; exact z⟩

  have hres : ip_Parse6.res short ok fine l m = ((splice (splice zero8 0 l) (8 - m.length) m), 0) := by unfold ip_Parse6.res; rw [if_neg (by simp [hgood])]
  rw [hres]
  have hl8 := ip_Parse6.ok8 hgood
  have h5 := ip_Parse6.len2 hl8 hm8
  unfold ip_Parse6.bad at hgood
  have hlen : wrap64 ((l.length : Int) + (m.length : Int)) = (l.length : Int) + (m.length : Int) := by unfold wrap64; omega
  have hsub : wrap64 (8 - (m.length : Int)) = 8 - (m.length : Int) := by unfold wrap64; omega
  have hn1 : Aside0 ((l.map (Value.int .u16)).length = Nat.min l.length 8) := ⟨by rw [List.length_map]; exact (Nat.min_eq_left hl8).symm⟩
  have hf1 : Aside0 (0 + (l.map (Value.int .u16)).length ≤ (zero8.map (Value.int .u16)).length) := ⟨by rw [List.length_map, List.length_map, zero8_len]; omega⟩
  obtain ⟨q, hq⟩ : ∃ q, q = 8 - (8 - m.length) := ⟨_, rfl⟩
  have hn2 : Aside0 ((m.map (Value.int .u16)).length = Nat.min m.length q) := ⟨by rw [List.length_map, hq]; exact (Nat.min_eq_left (by omega)).symm⟩
  have hf2 : Aside0 (8 - m.length + (m.map (Value.int .u16)).length ≤ ((splice zero8 0 l).map (Value.int .u16)).length) := ⟨by rw [List.length_map, List.length_map, length_splice _ _ _ (by rw [zero8_len]; omega), zero8_len]; omega⟩
  have hi5 : Aside0 ((Tryd.prog.info? 23).map (·.size) = some (arrV (splice (splice zero8 0 l) (8 - m.length) m)).size) := ⟨by rw [arr_size, h5]; kernel_rfl⟩
  have hs5 : Aside0 ((arrV zero8).size = (arrV (splice (splice zero8 0 l) (8 - m.length) m)).size) := ⟨by rw [arr_size, arr_size, h5]; rfl⟩
  have hu46 := Tryd.underlying46
  have hsz : (Tryd.prog.info? 22).map (·.size) = some 1 := by kernel_rfl
  have hsl1 := fun w' => sliceAll (P := Tryd.prog) (t := 23) (e := 22) (n := 8) (by kernel_rfl) (by kernel_rfl) (by kernel_rfl) (fun _ => by kernel_rfl) (by decide) (w.heap.size + 1) w'
  obtain ⟨D, hD0, hsl2⟩ := sliceLo (P := Tryd.prog) (t := 23) (e := 22) (n := 8) (by kernel_rfl) (by kernel_rfl) (by kernel_rfl) (fun _ => by kernel_rfl) (w.heap.size + 1) (8 - (m.length : Int)) (8 - m.length) (by omega) (by omega)
  have hD := Aside0.mk hD0
  rw [← hq] at hsl2
  clear hq h5 hD0
  cases ok with
  | false => exact absurd hgood (by simp)
  | true =>
  cases fine with
  | false => exact absurd hgood (by simp)
  | true =>
  cases short with
  | true =>
    simp only [Bool.not_true] at hl
    have h8 : ¬ 8 ≤ l.length + m.length := by simpa using hgood
    have q1 : decide ((8 : Int) ≤ (l.length : Int) + (m.length : Int)) = false := decide_eq_false (by omega)
    clear hgood
    go_enter Tryd.func12, Tryd.ntmps12
    go_wp2_with (first | (clear T0; go_at_call 23; rw [← hw0]; (with_reducible refine (strings_Cut.calls s _ fr bk _ _ hc (Own.ipW_below HT.out HB0.out)).mono ?_); rintro e w1 ⟨rfl, hb⟩; have HZ1 := Aside0.mk (blk_below HZ0.out hb); have HY1 := Aside0.mk (blk_below HY0.out hb); have HB1 := Aside0.mk (HB0.out.trans (hb.mono HB0.out.size)); clear hb HZ0 HY0 HB0 hw0; have T1 := Aside0.mk trivial) | (clear T1; go_at_call 24; (with_reducible refine (ip_list.calls k fr _ l _ _ hl).mono ?_); rintro e w2 ⟨v2, rfl, hR, hb⟩; obtain ⟨A1, c1, rfl, hlm, hS1⟩ := own_src hR; have HS1 := Aside0.mk hS1; have HZ2 := Aside0.mk (blk_below HZ1.out hb); have HY2 := Aside0.mk (blk_below HY1.out hb); have HB2 := Aside0.mk (HB1.out.trans (hb.mono HB1.out.size)); clear hb hR hS1 HZ1 HY1 HB1; have T2 := Aside0.mk trivial) | (clear T2; go_at_call 24; (with_reducible refine (ip_list.calls k bk true m _ _ hm).mono ?_); rintro e w3 ⟨v3, rfl, hR, hb⟩; obtain ⟨A2, c2, rfl, hmm, hS2⟩ := own_src hR; have HS2 := Aside0.mk hS2; have HS1' := Aside0.mk (fun h => let ⟨ad, ha, hg, hx⟩ := HS1.out h; (⟨ad, ha, src_below hx hb⟩ : ∃ ad, A1 = some ad ∧ ∀ j v, (l.map (Value.int .u16))[j]? = some v → w3.cell? (ad.add j) = some v)); have HZ3 := Aside0.mk (blk_below HZ2.out hb); have HY3 := Aside0.mk (blk_below HY2.out hb); have HB3 := Aside0.mk (HB2.out.trans (hb.mono HB2.out.size)); have HK3 := Aside0.mk (blk_lt HZ2.out); clear hb hR hS2 HZ2 HY2 HB2 HS1; have T3 := Aside0.mk trivial) | ((with_reducible refine gate_dst (N := 64) rfl ?_); refine copy_arr rfl (.tmp 62) (.tmp 63) 46 46 rfl 22 hu46 hsz (some ⟨w.heap.size + 1, 0, none⟩) A1 8 8 l.length c1 rfl rfl (w.heap.size + 1) 0 (zero8.map (Value.int .u16)) 23 HZ3.out (l.map (Value.int .u16)) hn1.out (fun h => ⟨rfl, HS1'.out (by simpa using h)⟩) hf1.out one_ints ?_; intro w4 hg4 hk4 hb4; rw [arr_splice] at hg4; have HZ4 := Aside0.mk hg4; have HS4 := Aside0.mk (fun h => let ⟨ad, ha, hg, hx⟩ := HS2.out h; (⟨ad, ha, src_keep hx hk4 (by have := HK3.out; omega)⟩ : ∃ ad, A2 = some ad ∧ ∀ j v, (m.map (Value.int .u16))[j]? = some v → w4.cell? (ad.add j) = some v)); have HY4 := Aside0.mk ((hk4 w.heap.size (by omega)).trans HY3.out); have HB4 := Aside0.mk (hb4 _ _ HB3.out (by omega)); clear hg4 hk4 hb4 HZ3 HY3 HB3 HS1' HS2) | ((with_reducible refine gate_dst (N := 70) rfl ?_); refine copy_arr rfl (.tmp 68) (.tmp 69) 46 46 rfl 22 hu46 hsz (some D) A2 q q m.length c2 rfl rfl (w.heap.size + 1) (8 - m.length) ((splice zero8 0 l).map (Value.int .u16)) 23 HZ4.out (m.map (Value.int .u16)) hn2.out (fun h => ⟨congrArg some (hD.out (by have h' : 0 < m.length := (by simpa using h); omega)), HS4.out (by simpa using h)⟩) hf2.out one_ints ?_; intro w5 hg5 hk5 hb5; rw [arr_splice] at hg5; have HZ5 := Aside0.mk hg5; have HY5 := Aside0.mk ((hk5 w.heap.size (by omega)).trans HY4.out); have HB5 := Aside0.mk (hb5 _ _ HB4.out (by omega)); clear hg5 hk5 hb5 HZ4 HY4 HB4 HS4) | ((with_reducible refine gate_dst (N := 71) rfl ?_); refine wpList_load_row rfl 23 (.tmp 4) rfl (w.heap.size + 1) rfl 23 (arrV (splice (splice zero8 0 l) (8 - m.length) m)) (0, 0) _ HZ5.out hu (by rfl) hi5.out ?_) | ((with_reducible refine gate_store (t := 23) (p := 2) rfl ?_); refine wpList_store_row rfl 23 (.tmp 2) (.tmp 71) rfl w.heap.size (arrV (splice (splice zero8 0 l) (8 - m.length) m)) rfl rfl 23 (arrV zero8) HY5.out hi5.out hs5.out (arr_one _) ?_))
    refine bodyPost_ret (v := .tuple #[.agg (arrV (splice (splice zero8 0 l) (8 - m.length) m)), .int .i64 0]) ?_ rfl ⟨rfl, Go.below_setRow HB5.out (Nat.le_refl _) _⟩
    exact results_arr (p := 2) (u := 3) (ty := 23) rfl _ _ w.heap.size 23 (arrV (splice (splice zero8 0 l) (8 - m.length) m)) (0, 0) _ rfl (setRow_heap _ _ _ _ _ _ HY5.out) hu rfl hi5.out
  | false =>
    simp only [Bool.not_false] at hl
    have h8 : l.length = 8 := by simpa using hgood
    have q1 : ((l.length : Int) != 8) = false := bne_eq_false_iff_eq.2 (by omega)
    clear hgood
    replace h8 := Aside0.mk h8
    go_enter Tryd.func12, Tryd.ntmps12
    go_wp2_with (first | (clear T0; go_at_call 23; rw [← hw0]; (with_reducible refine (strings_Cut.calls s _ fr bk _ _ hc (Own.ipW_below HT.out HB0.out)).mono ?_); rintro e w1 ⟨rfl, hb⟩; have HZ1 := Aside0.mk (blk_below HZ0.out hb); have HY1 := Aside0.mk (blk_below HY0.out hb); have HB1 := Aside0.mk (HB0.out.trans (hb.mono HB0.out.size)); clear hb HZ0 HY0 HB0 hw0; have T1 := Aside0.mk trivial) | (clear T1; go_at_call 24; (with_reducible refine (ip_list.calls k fr _ l _ _ hl).mono ?_); rintro e w2 ⟨v2, rfl, hR, hb⟩; obtain ⟨A1, c1, rfl, hlm, hS1⟩ := own_src hR; have HS1 := Aside0.mk hS1; have HZ2 := Aside0.mk (blk_below HZ1.out hb); have HY2 := Aside0.mk (blk_below HY1.out hb); have HB2 := Aside0.mk (HB1.out.trans (hb.mono HB1.out.size)); clear hb hR hS1 HZ1 HY1 HB1; have T2 := Aside0.mk trivial) | (clear T2; go_at_call 24; (with_reducible refine (ip_list.calls k bk true m _ _ hm).mono ?_); rintro e w3 ⟨v3, rfl, hR, hb⟩; obtain ⟨A2, c2, rfl, hmm, hS2⟩ := own_src hR; have HS2 := Aside0.mk hS2; have HS1' := Aside0.mk (fun h => let ⟨ad, ha, hg, hx⟩ := HS1.out h; (⟨ad, ha, src_below hx hb⟩ : ∃ ad, A1 = some ad ∧ ∀ j v, (l.map (Value.int .u16))[j]? = some v → w3.cell? (ad.add j) = some v)); have HZ3 := Aside0.mk (blk_below HZ2.out hb); have HY3 := Aside0.mk (blk_below HY2.out hb); have HB3 := Aside0.mk (HB2.out.trans (hb.mono HB2.out.size)); have HK3 := Aside0.mk (blk_lt HZ2.out); clear hb hR hS2 HZ2 HY2 HB2 HS1; have T3 := Aside0.mk trivial) | ((with_reducible refine gate_dst (N := 64) rfl ?_); refine copy_arr rfl (.tmp 62) (.tmp 63) 46 46 rfl 22 hu46 hsz (some ⟨w.heap.size + 1, 0, none⟩) A1 8 8 l.length c1 rfl rfl (w.heap.size + 1) 0 (zero8.map (Value.int .u16)) 23 HZ3.out (l.map (Value.int .u16)) hn1.out (fun h => ⟨rfl, HS1'.out (by simpa using h)⟩) hf1.out one_ints ?_; intro w4 hg4 hk4 hb4; rw [arr_splice] at hg4; have HZ4 := Aside0.mk hg4; have HS4 := Aside0.mk (fun h => let ⟨ad, ha, hg, hx⟩ := HS2.out h; (⟨ad, ha, src_keep hx hk4 (by have := HK3.out; omega)⟩ : ∃ ad, A2 = some ad ∧ ∀ j v, (m.map (Value.int .u16))[j]? = some v → w4.cell? (ad.add j) = some v)); have HY4 := Aside0.mk ((hk4 w.heap.size (by omega)).trans HY3.out); have HB4 := Aside0.mk (hb4 _ _ HB3.out (by omega)); clear hg4 hk4 hb4 HZ3 HY3 HB3 HS1' HS2) | ((with_reducible refine gate_dst (N := 70) rfl ?_); refine copy_arr rfl (.tmp 68) (.tmp 69) 46 46 rfl 22 hu46 hsz (some D) A2 q q m.length c2 rfl rfl (w.heap.size + 1) (8 - m.length) ((splice zero8 0 l).map (Value.int .u16)) 23 HZ4.out (m.map (Value.int .u16)) hn2.out (fun h => ⟨congrArg some (hD.out (by have h' : 0 < m.length := (by simpa using h); omega)), HS4.out (by simpa using h)⟩) hf2.out one_ints ?_; intro w5 hg5 hk5 hb5; rw [arr_splice] at hg5; have HZ5 := Aside0.mk hg5; have HY5 := Aside0.mk ((hk5 w.heap.size (by omega)).trans HY4.out); have HB5 := Aside0.mk (hb5 _ _ HB4.out (by omega)); clear hg5 hk5 hb5 HZ4 HY4 HB4 HS4) | ((with_reducible refine gate_dst (N := 71) rfl ?_); refine wpList_load_row rfl 23 (.tmp 4) rfl (w.heap.size + 1) rfl 23 (arrV (splice (splice zero8 0 l) (8 - m.length) m)) (0, 0) _ HZ5.out hu (by rfl) hi5.out ?_) | ((with_reducible refine gate_store (t := 23) (p := 2) rfl ?_); refine wpList_store_row rfl 23 (.tmp 2) (.tmp 71) rfl w.heap.size (arrV (splice (splice zero8 0 l) (8 - m.length) m)) rfl rfl 23 (arrV zero8) HY5.out hi5.out hs5.out (arr_one _) ?_))
    refine bodyPost_ret (v := .tuple #[.agg (arrV (splice (splice zero8 0 l) (8 - m.length) m)), .int .i64 0]) ?_ rfl ⟨rfl, Go.below_setRow HB5.out (Nat.le_refl _) _⟩
    exact results_arr (p := 2) (u := 3) (ty := 23) rfl _ _ w.heap.size 23 (arrV (splice (splice zero8 0 l) (8 - m.length) m)) (0, 0) _ rfl (setRow_heap _ _ _ _ _ _ HY5.out) hu rfl hi5.out

set_option maxHeartbeats 2000000 in
set_option maxRecDepth 100000 in
theorem ip_Parse6.way_long (s : ByteArray) (w : World) (hs : ¬ s.size ≤ 4000) :
    Calls Tryd.prog 12 #[.string s] w fun e w' => e = .returned (.tuple #[.agg (arrV zero8), .int .i64 11]) ∧ Below w.heap.size w w' := by
  have hu := Tryd.underlying23
  have hi0 : (Tryd.prog.info? 23).map (·.size) = some (arrV zero8).size := by kernel_rfl
  have q0 : decide ((4000 : Int) < (s.size : Int)) = true := decide_eq_true (by omega)
  obtain ⟨w3, hw0⟩ : ∃ w0, w0 = (w.alloc (.cells #[Value.int .u16 0, Value.int .u16 0, Value.int .u16 0, Value.int .u16 0, Value.int .u16 0, Value.int .u16 0, Value.int .u16 0, Value.int .u16 0] 23)).alloc (.cells #[Value.int .u16 0, Value.int .u16 0, Value.int .u16 0, Value.int .u16 0, Value.int .u16 0, Value.int .u16 0, Value.int .u16 0, Value.int .u16 0] 23) := ⟨_, rfl⟩
  have HB3 : Aside0 (Below w.heap.size w w3) := ⟨by rw [hw0]; exact below_alloc (below_alloc (Below.refl _ _) _) _⟩
  have HY3 : Aside0 (w3.heap[w.heap.size]? = some (.cells (arrV zero8) 23 (0, 0))) := ⟨by rw [hw0]; exact blk_alloc (blk_new _ _) _⟩
  have HZ3 : Aside0 (w3.heap[w.heap.size + 1]? = some (.cells (arrV zero8) 23 (0, 0))) := ⟨by rw [hw0]; have z := blk_new (w.alloc (.cells #[Value.int .u16 0, Value.int .u16 0, Value.int .u16 0, Value.int .u16 0, Value.int .u16 0, Value.int .u16 0, Value.int .u16 0, Value.int .u16 0] 23)) (.cells #[Value.int .u16 0, Value.int .u16 0, Value.int .u16 0, Value.int .u16 0, Value.int .u16 0, Value.int .u16 0, Value.int .u16 0, Value.int .u16 0] 23); rw [World.size_alloc] at z; exact z⟩
  go_enter Tryd.func12, Tryd.ntmps12
  go_wp2_with (first | (rw [← hw0]; clear hw0; ((with_reducible refine gate_dst (N := 15) rfl ?_); refine wpList_load_row rfl 23 (.tmp 4) rfl (w.heap.size + 1) rfl 23 (arrV zero8) (0, 0) _ HZ3.out hu (by rfl) hi0 ?_)) | ((with_reducible refine gate_store (t := 23) (p := 2) rfl ?_); refine wpList_store_row rfl 23 (.tmp 2) (.tmp 15) rfl w.heap.size (arrV zero8) rfl rfl 23 (arrV zero8) HY3.out hi0 rfl (arr_one _) ?_))
  refine bodyPost_ret (v := .tuple #[.agg (arrV zero8), .int .i64 11]) ?_ rfl ⟨rfl, Go.below_setRow HB3.out (Nat.le_refl _) _⟩
  exact results_arr (p := 2) (u := 3) (ty := 23) rfl _ _ w.heap.size 23 (arrV zero8) (0, 0) _ rfl (setRow_heap _ _ _ _ _ _ HY3.out) hu rfl hi0
def ip_Parse6.g (k : Nat) (s : ByteArray) : Option (List Int × Int) :=
  if s.size ≤ 4000 then ((strings_Cut.f s ⟨#[58, 58]⟩).bind fun c => (ip_list.f k c.1 (!c.2.2)).bind fun l => (ip_list.f k c.2.1 true).bind fun m =>
    if l.1.length < 4294967296 ∧ m.1.length < 4294967296 ∧ (ip_Parse6.bad c.2.2 l.2 m.2 l.1 m.1 = false → m.1.length ≤ 8) then some (ip_Parse6.res c.2.2 l.2 m.2 l.1 m.1) else none) else some (zero8, 11)
theorem ip_Parse6.gcalls (k : Nat) (s : ByteArray) (r : List Int) (e0 : Int) (w : World) (h : ip_Parse6.g k s = some (r, e0)) (hT0 : Own.ipW w) :
    Calls Tryd.prog 12 #[.string s] w fun e w' => e = .returned (.tuple #[.agg (arrV r), .int .i64 e0]) ∧ Below w.heap.size w w' := by
  unfold ip_Parse6.g at h
  by_cases hs : s.size ≤ 4000
  · rw [if_pos hs] at h
    obtain ⟨⟨fr, bk, short⟩, hc, h⟩ := Option.bind_eq_some_iff.1 h
    obtain ⟨⟨l, ok⟩, hl, h⟩ := Option.bind_eq_some_iff.1 h
    obtain ⟨⟨m, fine⟩, hm, h⟩ := Option.bind_eq_some_iff.1 h
    dsimp only at hl hm h
    by_cases h9 : l.length < 4294967296 ∧ m.length < 4294967296 ∧ (ip_Parse6.bad short ok fine l m = false → m.length ≤ 8)
    · rw [if_pos h9] at h
      have e := Option.some.inj h
      have e1 : r = (ip_Parse6.res short ok fine l m).1 := by rw [e]
      have e2 : e0 = (ip_Parse6.res short ok fine l m).2 := by rw [e]
      subst e1 e2
      cases hb : ip_Parse6.bad short ok fine l m with
      | true => exact ip_Parse6.way_bad k s fr bk short ok fine l m w hT0 hs hc hl hm h9.1 h9.2.1 hb
      | false => exact ip_Parse6.way_good k s fr bk short ok fine l m w hT0 hs hc hl hm h9.1 h9.2.1 (h9.2.2 hb) hb
    · rw [if_neg h9] at h; cases h
  · rw [if_neg hs] at h
    obtain ⟨rfl, rfl⟩ := Prod.mk.inj (Option.some.inj h)
    exact ip_Parse6.way_long s w hs
theorem ip_Parse6.gmono (s : ByteArray) (k : Nat) : LeO (ip_Parse6.g k s) (ip_Parse6.g (k + 1) s) := by
  unfold ip_Parse6.g
  refine LeO.ite (LeO.bind (LeO.refl _) fun c => LeO.bind (ip_list.mono _ _ k) fun l => LeO.bind (ip_list.mono _ _ k) fun m => LeO.refl _) (LeO.refl _)


/-! ### ip_parts: function 25 -/
def ip_parts.f (a0 : ByteArray) : Option (List ByteArray) := (strings_Split.f a0 (⟨#[46]⟩ : ByteArray)).bind fun t137 => (if (wrap64 ((t137.length : Int) - 1)) > 0 then (if 0 ≤ (wrap64 ((t137.length : Int) - 1)) then (if (wrap64 ((t137.length : Int) - 1)) < (t137.length : Int) then (if (rdOf ByteArray.empty t137 (wrap64 ((t137.length : Int) - 1))).toList = ([] : List UInt8) then (if (wrap64 ((t137.length : Int) - 1)) ≤ (t137.length : Int) then (some (t137.take ((wrap64 ((t137.length : Int) - 1)) : Int).toNat)) else (none)) else (some t137)) else (none)) else (none)) else (some t137))
set_option maxHeartbeats 2000000 in
set_option maxRecDepth 100000 in
theorem ip_parts.calls (a0 : ByteArray) (r : List ByteArray) (w : World) (h : ip_parts.f a0 = some r) :
    Calls Tryd.prog 25 #[.string a0] w fun e w' => ∃ v0_ : Value, e = .returned (v0_) ∧ Kd.R Kd.string 9 w' w.heap.size (fun _ => True) v0_ r ∧ Below w.heap.size w w' := by
  have HB := Aside0.mk (Below.refl w.heap.size w)
  have H : ((strings_Split.f a0 (⟨#[46]⟩ : ByteArray)).bind fun t137 => (if (wrap64 ((t137.length : Int) - 1)) > 0 then (if 0 ≤ (wrap64 ((t137.length : Int) - 1)) then (if (wrap64 ((t137.length : Int) - 1)) < (t137.length : Int) then (if (rdOf ByteArray.empty t137 (wrap64 ((t137.length : Int) - 1))).toList = ([] : List UInt8) then (if (wrap64 ((t137.length : Int) - 1)) ≤ (t137.length : Int) then (some (t137.take ((wrap64 ((t137.length : Int) - 1)) : Int).toNat)) else (none)) else (some t137)) else (none)) else (none)) else (some t137))) = some r := h
  clear h
  replace H := Option.bind_eq_some_iff.mp H
  obtain ⟨t137, A20, H⟩ := H
  replace H : (if (wrap64 ((t137.length : Int) - 1)) > 0 then (if 0 ≤ (wrap64 ((t137.length : Int) - 1)) then (if (wrap64 ((t137.length : Int) - 1)) < (t137.length : Int) then (if (rdOf ByteArray.empty t137 (wrap64 ((t137.length : Int) - 1))).toList = ([] : List UInt8) then (if (wrap64 ((t137.length : Int) - 1)) ≤ (t137.length : Int) then (some (t137.take ((wrap64 ((t137.length : Int) - 1)) : Int).toNat)) else (none)) else (some t137)) else (none)) else (none)) else (some t137)) = some r := H
  have A2 := Aside0.mk A20
  clear A20
  by_cases c3 : (wrap64 ((t137.length : Int) - 1)) > 0
  · rw [if_pos c3] at H
    have c3b0 : decide (0 < (wrap64 ((t137.length : Int) - 1))) = true := decide_eq_true c3
    clear c3
    obtain ⟨ji4, hji4⟩ : ∃ j_ : Int, (wrap64 ((t137.length : Int) - 1)) = j_ := ⟨_, rfl⟩
    replace H : (if 0 ≤ (ji4) then (if (ji4) < (t137.length : Int) then (if (rdOf ByteArray.empty t137 (ji4)).toList = ([] : List UInt8) then (if (ji4) ≤ (t137.length : Int) then (some (t137.take ((ji4) : Int).toNat)) else (none)) else (some t137)) else (none)) else (none)) = some r := by first | (rw [hji4] at H; exact H) | (simp only [hji4] at H ⊢; exact H)
    (try rw [hji4] at c3b0)
    (try rw [hji4] at A2)
    have hji4w : (IntKind.i64.wrap ((t137.length : Int) - 1)) = ji4 := (i64_w _).trans hji4
    by_cases c5 : 0 ≤ (ji4)
    · rw [if_pos c5] at H
      have c5b0 : decide (0 ≤ (ji4)) = true := decide_eq_true c5
      clear c5
      by_cases c6 : (ji4) < (t137.length : Int)
      · rw [if_pos c6] at H
        have c6b0 : decide ((ji4) < (t137.length : Int)) = true := decide_eq_true c6
        clear c6
        by_cases c7 : (rdOf ByteArray.empty t137 (ji4)).toList = ([] : List UInt8)
        · rw [if_pos c7] at H
          have c7b0 : ((rdOf ByteArray.empty t137 (ji4)).toList == ([] : List UInt8)) = true := beq_iff_eq.mpr c7
          have c7b1 : ((rdOf ByteArray.empty t137 (ji4)).toList != ([] : List UInt8)) = false := bne_eq_false_iff_eq.mpr c7
          clear c7
          by_cases c8 : (ji4) ≤ (t137.length : Int)
          · rw [if_pos c8] at H
            have c8b0 := eq_true c8
            have c8b1 : decide ((ji4) ≤ (t137.length : Int)) = true := decide_eq_true c8
            clear c8
            obtain ⟨y141, hy141⟩ : ∃ y_ : List ByteArray, y_ = (t137.take ((ji4) : Int).toNat) := ⟨_, rfl⟩
            replace H : (some y141) = some r := by first | (rw [hy141]; with_reducible exact H) | (have H2_ := (Option.bind_some _ _).symm.trans H; rw [hy141]; with_reducible exact H2_) | (have H2_ := (Option.bind_some _ _).symm.trans H; with_reducible exact H2_) | with_reducible exact H | (rw [hy141]; exact H) | exact H
            have Ny141 := Aside0.mk hy141
            clear hy141
            obtain rfl := Option.some.inj H
            (try (have e_c7b0 := c7b0; simp only [c3b0, c5b0, c6b0] at e_c7b0; simp at e_c7b0))
            go_enter Tryd.func25, Tryd.ntmps25
            go_wp2_with (first | ((with_reducible refine gate_callee (f := 39) rfl ?_); refine goesL_ (some 6) rfl rfl Tryd.func39 (by kernel_rfl) rfl #[.string a0, .string (⟨#[46]⟩ : ByteArray)] rfl (by (try simp only [List.map_toArray, List.map_cons, List.map_nil]); first | done | rfl | (simp only [List.length_drop, List.length_take]; rfl)) ?_; (with_reducible refine (strings_Split.calls a0 (⟨#[46]⟩ : ByteArray) t137 _ A2.out).mono ?_); rintro e w9 ⟨v138, rfl, ho0, hb⟩; refine ⟨_, rfl, ?_⟩; have n0_ := Aside0.mk (Kd.R_lower ho0 (below_size (by repeat (first | (with_reducible first | exact HB.out | apply below_alloc | apply pw_below_drewN | apply below_drew1) | exact HB.out)))); have n1_ := Aside0.mk (below_step (by repeat (first | (with_reducible first | exact HB.out | apply below_alloc | apply pw_below_drewN | apply below_drew1) | exact HB.out)) hb); clear HB; have HO139 := n0_; have HB := n1_; clear n0_ n1_; (try clear hb); (try clear hb2); (try clear hk); (try clear hi); (try clear ho0); obtain ⟨Ao10, co10, eo10⟩ := Kd.R_slice HO139.out; subst eo10; have p140 : 0 ≤ ((ji4) : Int) := of_decide_eq_true (by first | (with_reducible assumption) | assumption); have q140 : (ji4) < (t137.length : Int) := of_decide_eq_true (by first | (with_reducible assumption) | assumption); obtain ⟨ad140, e140, hx140_0⟩ := Kd.at_string (Kd.R_reads' HO139.out).2.2 (ji4) p140 q140; cases e140; replace p140 := eq_true p140; replace q140 := eq_true q140; have q11 : ((ji4) : Int) ≤ ((t137.length : Int) : Int) := of_decide_eq_true (by first | (with_reducible assumption) | assumption); obtain ⟨i011, hi011, _, hsz11, _⟩ := info_parts info9; have hcut11 := cut_to (P := Tryd.prog) 51 9 .i64 Tryd.underlying51 hi011 (some ad140) t137.length co10 (ji4) (of_decide_eq_true (by first | (with_reducible assumption) | assumption)) q11 (Kd.R_reads' HO139.out).2.1; have hr11 := Kd.R_take (m := ((ji4) : Int).toNat) HO139.out (by omega); have hy11 : y141.length = ((ji4) : Int).toNat := (by rw [Ny141.out, List.length_take]; omega); rw [← Ny141.out] at hr11; rw [← hy11] at hr11 hcut11; clear hy11 hi011 hsz11 HO139; have HO143 := Aside0.mk hr11; clear hr11; replace q11 := eq_true q11))
            go_ret
            exact ⟨_, by first | rfl | (simp [errW_none, errW_some] <;> rfl) | (simp only [← hji4]; first | rfl | (simp [errW_none, errW_some] <;> rfl)) | (simp [*, errW_none, errW_some] <;> rfl), by (with_reducible repeat (first | apply Kd.R_alloc | apply Kd.R_drewN | apply Kd.R_drew)); exact HO143.out, by repeat (first | (with_reducible first | exact HB.out | apply below_alloc | apply pw_below_drewN | apply below_drew1) | exact HB.out)⟩
          · rw [if_neg c8] at H
            exact absurd H (by simp)
        · rw [if_neg c7] at H
          have c7b0 : ((rdOf ByteArray.empty t137 (ji4)).toList == ([] : List UInt8)) = false := beq_eq_false_iff_ne.mpr c7
          have c7b1 : ((rdOf ByteArray.empty t137 (ji4)).toList != ([] : List UInt8)) = true := bne_iff_ne.mpr c7
          obtain rfl := Option.some.inj H
          (try (have e_c7b0 := c7b0; simp only [c3b0, c5b0, c6b0] at e_c7b0; simp at e_c7b0))
          go_enter Tryd.func25, Tryd.ntmps25
          go_wp2_with (first | ((with_reducible refine gate_callee (f := 39) rfl ?_); refine goesL_ (some 6) rfl rfl Tryd.func39 (by kernel_rfl) rfl #[.string a0, .string (⟨#[46]⟩ : ByteArray)] rfl (by (try simp only [List.map_toArray, List.map_cons, List.map_nil]); first | done | rfl | (simp only [List.length_drop, List.length_take]; rfl)) ?_; (with_reducible refine (strings_Split.calls a0 (⟨#[46]⟩ : ByteArray) t137 _ A2.out).mono ?_); rintro e w12 ⟨v138, rfl, ho0, hb⟩; refine ⟨_, rfl, ?_⟩; have n0_ := Aside0.mk (Kd.R_lower ho0 (below_size (by repeat (first | (with_reducible first | exact HB.out | apply below_alloc | apply pw_below_drewN | apply below_drew1) | exact HB.out)))); have n1_ := Aside0.mk (below_step (by repeat (first | (with_reducible first | exact HB.out | apply below_alloc | apply pw_below_drewN | apply below_drew1) | exact HB.out)) hb); clear HB; have HO139 := n0_; have HB := n1_; clear n0_ n1_; (try clear hb); (try clear hb2); (try clear hk); (try clear hi); (try clear ho0); obtain ⟨Ao13, co13, eo13⟩ := Kd.R_slice HO139.out; subst eo13; have p140 : 0 ≤ ((ji4) : Int) := of_decide_eq_true (by first | (with_reducible assumption) | assumption); have q140 : (ji4) < (t137.length : Int) := of_decide_eq_true (by first | (with_reducible assumption) | assumption); obtain ⟨ad140, e140, hx140_0⟩ := Kd.at_string (Kd.R_reads' HO139.out).2.2 (ji4) p140 q140; cases e140; replace p140 := eq_true p140; replace q140 := eq_true q140))
          go_ret
          exact ⟨_, by first | rfl | (simp [errW_none, errW_some] <;> rfl) | (simp only [← hji4]; first | rfl | (simp [errW_none, errW_some] <;> rfl)) | (simp [*, errW_none, errW_some] <;> rfl), by (with_reducible repeat (first | apply Kd.R_alloc | apply Kd.R_drewN | apply Kd.R_drew)); exact HO139.out, by repeat (first | (with_reducible first | exact HB.out | apply below_alloc | apply pw_below_drewN | apply below_drew1) | exact HB.out)⟩
      · rw [if_neg c6] at H
        exact absurd H (by simp)
    · rw [if_neg c5] at H
      exact absurd H (by simp)
  · rw [if_neg c3] at H
    have c3b0 : decide (0 < (wrap64 ((t137.length : Int) - 1))) = false := decide_eq_false c3
    clear c3
    obtain rfl := Option.some.inj H
    go_enter Tryd.func25, Tryd.ntmps25
    go_wp2_with (first | ((with_reducible refine gate_callee (f := 39) rfl ?_); refine goesL_ (some 6) rfl rfl Tryd.func39 (by kernel_rfl) rfl #[.string a0, .string (⟨#[46]⟩ : ByteArray)] rfl (by (try simp only [List.map_toArray, List.map_cons, List.map_nil]); first | done | rfl | (simp only [List.length_drop, List.length_take]; rfl)) ?_; (with_reducible refine (strings_Split.calls a0 (⟨#[46]⟩ : ByteArray) t137 _ A2.out).mono ?_); rintro e w14 ⟨v138, rfl, ho0, hb⟩; refine ⟨_, rfl, ?_⟩; have n0_ := Aside0.mk (Kd.R_lower ho0 (below_size (by repeat (first | (with_reducible first | exact HB.out | apply below_alloc | apply pw_below_drewN | apply below_drew1) | exact HB.out)))); have n1_ := Aside0.mk (below_step (by repeat (first | (with_reducible first | exact HB.out | apply below_alloc | apply pw_below_drewN | apply below_drew1) | exact HB.out)) hb); clear HB; have HO139 := n0_; have HB := n1_; clear n0_ n1_; (try clear hb); (try clear hb2); (try clear hk); (try clear hi); (try clear ho0); obtain ⟨Ao15, co15, eo15⟩ := Kd.R_slice HO139.out; subst eo15))
    go_ret
    exact ⟨_, by first | rfl | (simp [errW_none, errW_some] <;> rfl) | (simp [*, errW_none, errW_some] <;> rfl), by (with_reducible repeat (first | apply Kd.R_alloc | apply Kd.R_drewN | apply Kd.R_drew)); exact HO139.out, by repeat (first | (with_reducible first | exact HB.out | apply below_alloc | apply pw_below_drewN | apply below_drew1) | exact HB.out)⟩

/-! ### stringslite_HasPrefix: function 55 -/
def stringslite_HasPrefix.f (a0 : ByteArray) (a1 : ByteArray) : Option (Bool) := if (a0.size : Int) ≥ (a1.size : Int) then (if 0 ≤ (a1.size : Int) then (if (a1.size : Int) ≤ (a0.size : Int) then (some ((a0.extract 0 ((a1.size : Int) : Int).toNat).toList == a1.toList)) else (none)) else (none)) else (some false)
set_option maxHeartbeats 2000000 in
set_option maxRecDepth 100000 in
theorem stringslite_HasPrefix.calls (a0 : ByteArray) (a1 : ByteArray) (r : Bool) (w : World) (h : stringslite_HasPrefix.f a0 a1 = some r) :
    Calls Tryd.prog 55 #[.string a0, .string a1] w fun e w' => e = .returned (.bool r) ∧ Drawn0 w w' := by
  have H : (if (a0.size : Int) ≥ (a1.size : Int) then (if 0 ≤ (a1.size : Int) then (if (a1.size : Int) ≤ (a0.size : Int) then (some ((a0.extract 0 ((a1.size : Int) : Int).toNat).toList == a1.toList)) else (none)) else (none)) else (some false)) = some r := h
  clear h
  by_cases c3 : (a0.size : Int) ≥ (a1.size : Int)
  · rw [if_pos c3] at H
    have c3b0 : decide ((a1.size : Int) ≤ (a0.size : Int)) = true := decide_eq_true c3
    have c3b1 : decide (a1.size ≤ a0.size) = true := decide_eq_true (Int.ofNat_le.mp c3)
    clear c3
    by_cases c4 : 0 ≤ (a1.size : Int)
    · rw [if_pos c4] at H
      have c4b0 := eq_true c4
      have c4b1 : decide (0 ≤ (a1.size : Int)) = true := decide_eq_true c4
      clear c4
      by_cases c5 : (a1.size : Int) ≤ (a0.size : Int)
      · rw [if_pos c5] at H
        have c5b0 := eq_true c5
        have c5b1 : decide ((a1.size : Int) ≤ (a0.size : Int)) = true := decide_eq_true c5
        clear c5
        obtain rfl := Option.some.inj H
        go_enter Tryd.func55, Tryd.ntmps55
        go_wp2
        go_ret
        exact ⟨by first | rfl | (simp; done) | (simp [*]; done), by repeat (first | exact Drawn0.refl _ | apply Drawn0.step)⟩
      · rw [if_neg c5] at H
        exact absurd H (by simp)
    · rw [if_neg c4] at H
      exact absurd H (by simp)
  · rw [if_neg c3] at H
    have c3b0 : decide ((a1.size : Int) ≤ (a0.size : Int)) = false := decide_eq_false c3
    have c3b1 : decide (a1.size ≤ a0.size) = false := decide_eq_false (fun h => c3 (Int.ofNat_le.mpr h))
    clear c3
    obtain rfl := Option.some.inj H
    go_enter Tryd.func55, Tryd.ntmps55
    go_wp2
    go_ret
    exact ⟨by first | rfl | (simp; done) | (simp [*]; done), by repeat (first | exact Drawn0.refl _ | apply Drawn0.step)⟩

/-! ### strings_HasPrefix: function 42 -/
def strings_HasPrefix.f (a0 : ByteArray) (a1 : ByteArray) : Option (Bool) := (stringslite_HasPrefix.f a0 a1).bind fun t144 => (some t144)
set_option maxHeartbeats 2000000 in
set_option maxRecDepth 100000 in
theorem strings_HasPrefix.calls (a0 : ByteArray) (a1 : ByteArray) (r : Bool) (w : World) (h : strings_HasPrefix.f a0 a1 = some r) :
    Calls Tryd.prog 42 #[.string a0, .string a1] w fun e w' => e = .returned (.bool r) ∧ Drawn0 w w' := by
  have H : ((stringslite_HasPrefix.f a0 a1).bind fun t144 => (some t144)) = some r := h
  clear h
  replace H := Option.bind_eq_some_iff.mp H
  obtain ⟨t144, A30, H⟩ := H
  replace H : (some t144) = some r := H
  have A3 := Aside0.mk A30
  clear A30
  obtain rfl := Option.some.inj H
  go_enter Tryd.func42, Tryd.ntmps42
  go_wp2_with (first | ((with_reducible refine gate_callee (f := 55) rfl ?_); refine goesL_ (some 7) rfl rfl Tryd.func55 (by kernel_rfl) rfl #[.string a0, .string a1] rfl (by (try simp only [List.map_toArray, List.map_cons, List.map_nil]); first | done | rfl | (simp only [List.length_drop, List.length_take]; rfl)) ?_; (with_reducible refine (stringslite_HasPrefix.calls a0 a1 t144 _ A3.out).mono ?_); rintro e w' ⟨rfl, ⟨nd, rfl⟩⟩; refine ⟨_, rfl, ?_⟩))
  go_ret
  exact ⟨by first | rfl | (simp; done) | (simp [*]; done), by repeat (first | exact Drawn0.refl _ | apply Drawn0.step)⟩

/-! ### ip_part: function 26 -/
mutual
def ip_part.j0 : Nat → ByteArray → Bool → Option (Int × Bool)
  | 0, _, _ => none
  | k + 1, x0, x7 => if x7 = true then (if 2 ≤ (x0.size : Int) then ((ip_number.f k (x0.extract 2 x0.size) 16).bind fun bt147 => (some (bt147.1, bt147.2))) else (none)) else (if 0 < (x0.size : Int) then (if (bt x0 0) = 48 then (ip_part.j1 k x0 (decide ((x0.size : Int) > 1))) else (ip_part.j1 k x0 false)) else (none))
def ip_part.j1 : Nat → ByteArray → Bool → Option (Int × Bool)
  | 0, _, _ => none
  | k + 1, x0, x19 => if x19 = true then (if 1 ≤ (x0.size : Int) then ((ip_number.f k (x0.extract 1 x0.size) 8).bind fun bt149 => (some (bt149.1, bt149.2))) else (none)) else ((ip_number.f k x0 10).bind fun bt151 => (some (bt151.1, bt151.2)))
end
def ip_part.f (k : Nat) (a0 : ByteArray) : Option (Int × Bool) := if a0.toList = ([] : List UInt8) then (some (0, false)) else ((strings_HasPrefix.f a0 (⟨#[48, 120]⟩ : ByteArray)).bind fun t145 => (if t145 = true then (ip_part.j0 k a0 true) else ((strings_HasPrefix.f a0 (⟨#[48, 88]⟩ : ByteArray)).bind fun t146 => (ip_part.j0 k a0 t146))))
theorem ip_part.mono_l : ∀ k, (∀ y0 y1, LeO (ip_part.j0 k y0 y1) (ip_part.j0 (k + 1) y0 y1)) ∧ (∀ y0 y1, LeO (ip_part.j1 k y0 y1) (ip_part.j1 (k + 1) y0 y1))
  | 0 => ⟨fun _ _ r h => by simp [ip_part.j0] at h, fun _ _ r h => by simp [ip_part.j1] at h⟩
  | k + 1 => by
    obtain ⟨ih0, ih1⟩ := ip_part.mono_l k
    refine ⟨?_, ?_⟩
    · intro y0 y1
      unfold ip_part.j0
      repeat' first
      | (with_reducible exact ih0 _ _)
      | (with_reducible exact ih1 _ _)
      | (with_reducible exact ip_number.mono _ _ _)
      | (with_reducible exact LeO.refl _)
      | (with_reducible exact LeO.none _)
      | (with_reducible refine LeO.ite ?_ ?_)
      | (with_reducible refine LeO.bind ?_ (fun _ => ?_))
      | exact ih0 _ _
      | exact ih1 _ _
      | exact ip_number.mono _ _ _
      | exact LeO.none _
      | refine LeO.ite ?_ ?_
      | refine LeO.bind ?_ (fun _ => ?_)
    · intro y0 y1
      unfold ip_part.j1
      repeat' first
      | (with_reducible exact ih0 _ _)
      | (with_reducible exact ih1 _ _)
      | (with_reducible exact ip_number.mono _ _ _)
      | (with_reducible exact LeO.refl _)
      | (with_reducible exact LeO.none _)
      | (with_reducible refine LeO.ite ?_ ?_)
      | (with_reducible refine LeO.bind ?_ (fun _ => ?_))
      | exact ih0 _ _
      | exact ih1 _ _
      | exact ip_number.mono _ _ _
      | exact LeO.none _
      | refine LeO.ite ?_ ?_
      | refine LeO.bind ?_ (fun _ => ?_)
theorem ip_part.mono : ∀ a0 k, LeO (ip_part.f k a0) (ip_part.f (k + 1) a0) := by
  intro a0 k
  obtain ⟨ih0, ih1⟩ := ip_part.mono_l k
  unfold ip_part.f
  repeat' first
      | (with_reducible exact ih0 _ _)
      | (with_reducible exact ih1 _ _)
      | (with_reducible exact ip_number.mono _ _ _)
      | (with_reducible exact LeO.refl _)
      | (with_reducible exact LeO.none _)
      | (with_reducible refine LeO.ite ?_ ?_)
      | (with_reducible refine LeO.bind ?_ (fun _ => ?_))
      | exact ih0 _ _
      | exact ih1 _ _
      | exact ip_number.mono _ _ _
      | exact LeO.none _
      | refine LeO.ite ?_ ?_
      | refine LeO.bind ?_ (fun _ => ?_)
set_option maxHeartbeats 2000000 in
set_option maxRecDepth 100000 in
theorem ip_part.calls (k : Nat) (a0 : ByteArray) (r1 : Int) (r2 : Bool) (w : World) (h : ip_part.f k a0 = some (r1, r2)) :
    Calls Tryd.prog 26 #[.string a0] w fun e w' => e = .returned (.tuple #[.int .i64 r1, .bool r2]) ∧ Below w.heap.size w w' := by
  have HB := Aside0.mk (Below.refl w.heap.size w)
  have H : (if a0.toList = ([] : List UInt8) then (some (0, false)) else ((strings_HasPrefix.f a0 (⟨#[48, 120]⟩ : ByteArray)).bind fun t145 => (if t145 = true then (ip_part.j0 k a0 true) else ((strings_HasPrefix.f a0 (⟨#[48, 88]⟩ : ByteArray)).bind fun t146 => (ip_part.j0 k a0 t146))))) = some (r1, r2) := h
  clear h
  by_cases c2 : a0.toList = ([] : List UInt8)
  · rw [if_pos c2] at H
    have c2b0 : (a0.toList == ([] : List UInt8)) = true := beq_iff_eq.mpr c2
    have c2b1 : (a0.toList != ([] : List UInt8)) = false := bne_eq_false_iff_eq.mpr c2
    clear c2
    simp only [Option.some.injEq, Prod.mk.injEq] at H
    obtain ⟨rfl, rfl⟩ := H
    go_enter Tryd.func26, Tryd.ntmps26
    go_wp2
    go_ret2
    exact ⟨by first | rfl | (simp [errW_none, errW_some] <;> rfl) | (simp [*, errW_none, errW_some] <;> rfl), by repeat (first | (with_reducible first | exact HB.out | apply below_alloc | apply pw_below_drewN | apply below_drew1) | exact HB.out)⟩
  · rw [if_neg c2] at H
    have c2b0 : (a0.toList == ([] : List UInt8)) = false := beq_eq_false_iff_ne.mpr c2
    have c2b1 : (a0.toList != ([] : List UInt8)) = true := bne_iff_ne.mpr c2
    have HC3 := Aside0.mk H
    clear H
    go_enter Tryd.func26, Tryd.ntmps26
    go_upto_region 3 with (fail)
    go_cut [7] (fun v7 wc => ∃ (kq : Nat) (x7_2 : Bool), v7 = .bool x7_2 ∧ Aside0 (ip_part.j0 kq a0 x7_2 = some (r1, r2)) ∧ Aside0 (kq ≤ k) ∧ Aside0 (Below w.heap.size w wc))
    case first =>
      have H := HC3.out
      clear HC3
      replace H := Option.bind_eq_some_iff.mp H
      obtain ⟨t145, A40, H⟩ := H
      replace H : (if t145 = true then (ip_part.j0 k a0 true) else ((strings_HasPrefix.f a0 (⟨#[48, 88]⟩ : ByteArray)).bind fun t146 => (ip_part.j0 k a0 t146))) = some (r1, r2) := H
      have A4 := Aside0.mk A40
      clear A40
      by_cases c5 : t145 = true
      · subst c5
        have H1 : (ip_part.j0 k a0 true) = some (r1, r2) := by rw [if_pos rfl] at H; exact H
        clear H
        have H := H1
        clear H1
        have H' := Aside0.mk H
        clear H
        go_wp2_with (first | ((with_reducible refine gate_callee (f := 42) rfl ?_); refine goesL_ (some 9) rfl rfl Tryd.func42 (by kernel_rfl) rfl #[.string a0, .string (⟨#[48, 120]⟩ : ByteArray)] rfl (by (try simp only [List.map_toArray, List.map_cons, List.map_nil]); first | done | rfl | (simp only [List.length_drop, List.length_take]; rfl)) ?_; (with_reducible refine (strings_HasPrefix.calls a0 (⟨#[48, 120]⟩ : ByteArray) true _ A4.out).mono ?_); rintro e w' ⟨rfl, ⟨nd, rfl⟩⟩; refine ⟨_, rfl, ?_⟩))
        go_meet
        case rel => exact ⟨_, (true), (by first | rfl | (simp; done) | (simp [*]; done)), H', ⟨by first | omega | exact Nat.le_refl _⟩, ⟨by repeat (first | (with_reducible first | exact HB.out | apply below_alloc | apply pw_below_drewN | apply below_drew1) | exact HB.out)⟩⟩
      · replace c5 := Bool.eq_false_iff.mpr c5
        subst c5
        have H1 : ((strings_HasPrefix.f a0 (⟨#[48, 88]⟩ : ByteArray)).bind fun t146 => (ip_part.j0 k a0 t146)) = some (r1, r2) := by rw [if_neg (show ¬ (false = true) by decide)] at H; exact H
        clear H
        have H := H1
        clear H1
        replace H := Option.bind_eq_some_iff.mp H
        obtain ⟨t146, A60, H⟩ := H
        replace H : (ip_part.j0 k a0 t146) = some (r1, r2) := H
        have A6 := Aside0.mk A60
        clear A60
        have H' := Aside0.mk H
        clear H
        go_wp2_with (first | ((with_reducible refine gate_callee (f := 42) rfl ?_); refine goesL_ (some 9) rfl rfl Tryd.func42 (by kernel_rfl) rfl #[.string a0, .string (⟨#[48, 120]⟩ : ByteArray)] rfl (by (try simp only [List.map_toArray, List.map_cons, List.map_nil]); first | done | rfl | (simp only [List.length_drop, List.length_take]; rfl)) ?_; (with_reducible refine (strings_HasPrefix.calls a0 (⟨#[48, 120]⟩ : ByteArray) false _ A4.out).mono ?_); rintro e w' ⟨rfl, ⟨nd, rfl⟩⟩; refine ⟨_, rfl, ?_⟩) | (go_at_call 42; (with_reducible refine (strings_HasPrefix.calls a0 (⟨#[48, 88]⟩ : ByteArray) t146 _ A6.out).mono ?_); rintro e w' ⟨rfl, ⟨nd, rfl⟩⟩))
        go_meet
        case rel => exact ⟨_, (t146), (by first | rfl | (simp; done) | (simp [*]; done)), H', ⟨by first | omega | exact Nat.le_refl _⟩, ⟨by repeat (first | (with_reducible first | exact HB.out | apply below_alloc | apply pw_below_drewN | apply below_drew1) | exact HB.out)⟩⟩
    case rest =>
      clear HC3
      try clear c2
      try clear c2b0
      try clear c2b1
      try clear p2
      try clear c4
      try clear c5
      obtain ⟨kq, x7_2, rfl, HA, HJ2, HB⟩ := hcut
      cases kq with
      | zero => exact absurd HA.out (by simp [ip_part.j0])
      | succ kj2 =>
        have H := HA.out
        clear HA
        simp only [ip_part.j0] at H
        by_cases c7 : x7_2 = true
        · subst c7
          have H1 : (if 2 ≤ (a0.size : Int) then ((ip_number.f kj2 (a0.extract 2 a0.size) 16).bind fun bt147 => (some (bt147.1, bt147.2))) else (none)) = some (r1, r2) := by rw [if_pos rfl] at H; exact H
          clear H
          have H := H1
          clear H1
          by_cases c8 : 2 ≤ (a0.size : Int)
          · rw [if_pos c8] at H
            have c8b0 := eq_true c8
            have c8b1 : decide (2 ≤ (a0.size : Int)) = true := decide_eq_true c8
            clear c8
            replace H := Option.bind_eq_some_iff.mp H
            obtain ⟨⟨t147, t148⟩, A90, H⟩ := H
            replace H : (some (t147, t148)) = some (r1, r2) := H
            have A9 := Aside0.mk A90
            clear A90
            simp only [Option.some.injEq, Prod.mk.injEq] at H
            obtain ⟨rfl, rfl⟩ := H
            go_wp2_with (first | ((with_reducible refine gate_callee (f := 30) rfl ?_); refine goesL_ (some 16) rfl rfl Tryd.func30 (by kernel_rfl) rfl #[.string (a0.extract 2 a0.size), .int .i64 16] rfl (by (try simp only [List.map_toArray, List.map_cons, List.map_nil]); first | done | rfl | (simp only [List.length_drop, List.length_take]; rfl)) ?_; (with_reducible refine (ip_number.calls kj2 (a0.extract 2 a0.size) 16 t147 t148 _ A9.out).mono ?_); rintro e w10 ⟨rfl, hb⟩; refine ⟨_, rfl, ?_⟩; have n0_ := Aside0.mk (below_step (by repeat (first | (with_reducible first | exact HB.out | apply below_alloc | apply pw_below_drewN | apply below_drew1) | exact HB.out)) hb); clear HB; have HB := n0_; clear n0_; (try clear hb); (try clear hb2); (try clear hk); (try clear hi)))
            go_ret2
            exact ⟨by first | rfl | (simp [errW_none, errW_some] <;> rfl) | (simp [*, errW_none, errW_some] <;> rfl), by repeat (first | (with_reducible first | exact HB.out | apply below_alloc | apply pw_below_drewN | apply below_drew1) | exact HB.out)⟩
          · rw [if_neg c8] at H
            exact absurd H (by simp)
        · replace c7 := Bool.eq_false_iff.mpr c7
          subst c7
          have H1 : (if 0 < (a0.size : Int) then (if (bt a0 0) = 48 then (ip_part.j1 kj2 a0 (decide ((a0.size : Int) > 1))) else (ip_part.j1 kj2 a0 false)) else (none)) = some (r1, r2) := by rw [if_neg (show ¬ (false = true) by decide)] at H; exact H
          clear H
          have H := H1
          clear H1
          have HC11 := Aside0.mk H
          clear H
          go_upto_region 5 with (fail)
          go_cut [19] (fun v19 wc => ∃ (kq : Nat) (x19_10 : Bool), v19 = .bool x19_10 ∧ Aside0 (ip_part.j1 kq a0 x19_10 = some (r1, r2)) ∧ Aside0 (kq ≤ kj2) ∧ Aside0 (Below w.heap.size w wc))
          case first =>
            have H := HC11.out
            clear HC11
            by_cases c12 : 0 < (a0.size : Int)
            · rw [if_pos c12] at H
              have c12b0 : decide (0 < (a0.size : Int)) = true := decide_eq_true c12
              have c12b1 : decide (0 < a0.size) = true := decide_eq_true (by omega)
              clear c12
              (first | rw [c12b0] | (simp only [i64_w, i32_w]; rw [c12b0]) | skip)
              by_cases c14 : (bt a0 0) = 48
              · rw [if_pos c14] at H
                have c14b0 : ((bt a0 0) == 48) = true := beq_iff_eq.mpr c14
                have c14b1 : ((bt a0 0) != 48) = false := bne_eq_false_iff_eq.mpr c14
                clear c14
                have H' := Aside0.mk H
                clear H
                have p13 : 0 ≤ (0 : Int) := (by omega)
                have q13 : 0 < a0.size := (by have : (0 : Int) < (a0.size : Int) := of_decide_eq_true (by first | (with_reducible assumption) | assumption); omega)
                have hx13 : ∀ h : 0 < a0.size, ((a0[0]'h).toNat : Int) = bt a0 0 := bt_at a0 0
                clear p13
                have qi13 : (0 < (a0.size : Int)) = True := eq_true (of_decide_eq_true (by first | (with_reducible assumption) | assumption))
                replace q13 := eq_true q13
                go_wp2
                go_meet
                case rel => exact ⟨_, (decide ((a0.size : Int) > 1)), (by first | rfl | (simp; done) | (simp [*]; done)), H', ⟨by have := HJ2.out; first | omega | exact Nat.le_refl _⟩, ⟨by repeat (first | (with_reducible first | exact HB.out | apply below_alloc | apply pw_below_drewN | apply below_drew1) | exact HB.out)⟩⟩
              · rw [if_neg c14] at H
                have c14b0 : ((bt a0 0) == 48) = false := beq_eq_false_iff_ne.mpr c14
                have c14b1 : ((bt a0 0) != 48) = true := bne_iff_ne.mpr c14
                have H' := Aside0.mk H
                clear H
                have p13 : 0 ≤ (0 : Int) := (by omega)
                have q13 : 0 < a0.size := (by have : (0 : Int) < (a0.size : Int) := of_decide_eq_true (by first | (with_reducible assumption) | assumption); omega)
                have hx13 : ∀ h : 0 < a0.size, ((a0[0]'h).toNat : Int) = bt a0 0 := bt_at a0 0
                clear p13
                have qi13 : (0 < (a0.size : Int)) = True := eq_true (of_decide_eq_true (by first | (with_reducible assumption) | assumption))
                replace q13 := eq_true q13
                go_wp2
                go_meet
                case rel => exact ⟨_, (false), (by first | rfl | (simp; done) | (simp [*]; done)), H', ⟨by have := HJ2.out; first | omega | exact Nat.le_refl _⟩, ⟨by repeat (first | (with_reducible first | exact HB.out | apply below_alloc | apply pw_below_drewN | apply below_drew1) | exact HB.out)⟩⟩
            · rw [if_neg c12] at H
              exact absurd H (by simp)
          case rest =>
            clear HC11
            try clear c1
            try clear p1
            try clear q1
            try clear hx1
            try clear qi1
            try clear c2
            try clear c2b0
            try clear c2b1
            try clear p2
            try clear c3
            try clear c4
            try clear c5
            try clear c7
            try clear c8
            try clear c8b0
            try clear c8b1
            try clear c12
            try clear c12b0
            try clear c12b1
            try clear p13
            try clear q13
            try clear hx13
            try clear qi13
            try clear c14
            try clear c14b0
            try clear c14b1
            try clear p13
            try clear p2
            try clear q13
            obtain ⟨kq, x19_10, rfl, HA, HJ10, HB⟩ := hcut
            cases kq with
            | zero => exact absurd HA.out (by simp [ip_part.j1])
            | succ kj10 =>
              have H := HA.out
              clear HA
              simp only [ip_part.j1] at H
              by_cases c15 : x19_10 = true
              · subst c15
                have H1 : (if 1 ≤ (a0.size : Int) then ((ip_number.f kj10 (a0.extract 1 a0.size) 8).bind fun bt149 => (some (bt149.1, bt149.2))) else (none)) = some (r1, r2) := by rw [if_pos rfl] at H; exact H
                clear H
                have H := H1
                clear H1
                by_cases c16 : 1 ≤ (a0.size : Int)
                · rw [if_pos c16] at H
                  have c16b0 := eq_true c16
                  have c16b1 : decide (1 ≤ (a0.size : Int)) = true := decide_eq_true c16
                  clear c16
                  replace H := Option.bind_eq_some_iff.mp H
                  obtain ⟨⟨t149, t150⟩, A170, H⟩ := H
                  replace H : (some (t149, t150)) = some (r1, r2) := H
                  have A17 := Aside0.mk A170
                  clear A170
                  simp only [Option.some.injEq, Prod.mk.injEq] at H
                  obtain ⟨rfl, rfl⟩ := H
                  go_wp2_with (first | ((with_reducible refine gate_callee (f := 30) rfl ?_); refine goesL_ (some 30) rfl rfl Tryd.func30 (by kernel_rfl) rfl #[.string (a0.extract 1 a0.size), .int .i64 8] rfl (by (try simp only [List.map_toArray, List.map_cons, List.map_nil]); first | done | rfl | (simp only [List.length_drop, List.length_take]; rfl)) ?_; (with_reducible refine (ip_number.calls kj10 (a0.extract 1 a0.size) 8 t149 t150 _ A17.out).mono ?_); rintro e w18 ⟨rfl, hb⟩; refine ⟨_, rfl, ?_⟩; have n0_ := Aside0.mk (below_step (by repeat (first | (with_reducible first | exact HB.out | apply below_alloc | apply pw_below_drewN | apply below_drew1) | exact HB.out)) hb); clear HB; have HB := n0_; clear n0_; (try clear hb); (try clear hb2); (try clear hk); (try clear hi)))
                  go_ret2
                  exact ⟨by first | rfl | (simp [errW_none, errW_some] <;> rfl) | (simp [*, errW_none, errW_some] <;> rfl), by repeat (first | (with_reducible first | exact HB.out | apply below_alloc | apply pw_below_drewN | apply below_drew1) | exact HB.out)⟩
                · rw [if_neg c16] at H
                  exact absurd H (by simp)
              · replace c15 := Bool.eq_false_iff.mpr c15
                subst c15
                have H1 : ((ip_number.f kj10 a0 10).bind fun bt151 => (some (bt151.1, bt151.2))) = some (r1, r2) := by rw [if_neg (show ¬ (false = true) by decide)] at H; exact H
                clear H
                have H := H1
                clear H1
                replace H := Option.bind_eq_some_iff.mp H
                obtain ⟨⟨t151, t152⟩, A190, H⟩ := H
                replace H : (some (t151, t152)) = some (r1, r2) := H
                have A19 := Aside0.mk A190
                clear A190
                simp only [Option.some.injEq, Prod.mk.injEq] at H
                obtain ⟨rfl, rfl⟩ := H
                go_wp2_with (first | ((with_reducible refine gate_callee (f := 30) rfl ?_); refine goesL_ (some 34) rfl rfl Tryd.func30 (by kernel_rfl) rfl #[.string a0, .int .i64 10] rfl (by (try simp only [List.map_toArray, List.map_cons, List.map_nil]); first | done | rfl | (simp only [List.length_drop, List.length_take]; rfl)) ?_; (with_reducible refine (ip_number.calls kj10 a0 10 t151 t152 _ A19.out).mono ?_); rintro e w20 ⟨rfl, hb⟩; refine ⟨_, rfl, ?_⟩; have n0_ := Aside0.mk (below_step (by repeat (first | (with_reducible first | exact HB.out | apply below_alloc | apply pw_below_drewN | apply below_drew1) | exact HB.out)) hb); clear HB; have HB := n0_; clear n0_; (try clear hb); (try clear hb2); (try clear hk); (try clear hi)))
                go_ret2
                exact ⟨by first | rfl | (simp [errW_none, errW_some] <;> rfl) | (simp [*, errW_none, errW_some] <;> rfl), by repeat (first | (with_reducible first | exact HB.out | apply below_alloc | apply pw_below_drewN | apply below_drew1) | exact HB.out)⟩

end Go.Proofs.YtldkhokpedfhdaaDoor.K
