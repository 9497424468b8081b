-- Written by a program of this session's (wip/xprint.py), out of the seat's translation.
import Derived.Test.YtifchklfomddhaaDoorX0
import Derived.Test.YtifchklfomddhaaDoorX1
import Derived.Test.YtifchklfomddhaaDoorX2
namespace Go.Proofs.YtifchklfomddhaaDoor.X
open Go.RowKit Go.Proofs.YtifchklfomddhaaDoorW.PrintWords Go.Proofs.YtifchklfomddhaaDoorW.PrintLast Go.Proofs.YtifchklfomddhaaDoorW.PrintMore
attribute [local go_sem] max2_int min2_int max_two min_two max_three min_three max_four min_four   -- for this text's walks alone
set_option linter.unusedVariables false
set_option linter.unusedSimpArgs false

/-! ### sprlaw14_CcStricter: function 4 -/
def ccR (k : Nat) (v : List ByteArray) : Option Own.Ctl := (head_Split.f k v).bind fun ps => (cc_Parse.steps k ps Own.Ctl.zero).bind fun c => some c.fin
theorem ccR_mono (k : Nat) (v : List ByteArray) : LeO (ccR k v) (ccR (k + 1) v) := LeO.bind (head_Split.mono _ k) fun _ => LeO.bind (cc_Parse.mono_steps k _ _) fun _ => LeO.refl _
theorem ccR_calls (k : Nat) (A : Option Addr) (c0 : Nat) (l : List ByteArray) (c : Own.Ctl) (w : World) (hr0 : Kd.C Kd.string w A l.length l) (hc0 : l.length ≤ c0) (h : ccR k l = some c) :
    Calls Tryd.prog 14 #[.slice A l.length c0] w fun e w' => e = .returned (.agg c.cells) ∧ Below w.heap.size w w' := by
  unfold ccR at h
  obtain ⟨ps, h1, h⟩ := Option.bind_eq_some_iff.1 h
  obtain ⟨c1, h2, h⟩ := Option.bind_eq_some_iff.1 h
  obtain rfl := Option.some.inj h
  exact cc_Parse.own k A c0 l ps c1 w hr0 hc0 h1 h2
def lessB (h : Bool) (x : Int) (h' : Bool) (x' : Int) : Bool := !h || (h' && decide (x' ≤ x))
def flagsB (a b : Own.Ctl) : Bool := (!a.b0 || b.b0) && ((!a.b1 || b.b1) && ((!a.b2 || b.b2) && ((!a.b3 || b.b3) && ((!a.b4 || b.b4) && ((!a.b5 || b.b5) && ((!a.b6 || b.b6) && ((!a.b7 || b.b7) && ((!a.b8 || b.b8) && (!a.b9 || b.b9)))))))))
def numsB (a b : Own.Ctl) : Bool := lessB a.h0 a.n0 b.h0 b.n0 && (lessB a.h1 a.n1 b.h1 b.n1 && (lessB a.h2 a.n2 b.h2 b.n2 && (lessB a.h4 a.n4 b.h4 b.n4 && (!a.h3 || (b.h3 && decide (a.n3 ≤ b.n3))))))
set_option maxHeartbeats 1000000 in
theorem less_own (h : Bool) (x : Int) (h' : Bool) (x' : Int) (hok : lessB h x h' x' = true) (w : World) :
    Calls Tryd.prog 17 #[.agg #[.bool h, .int .i64 x], .agg #[.bool h', .int .i64 x']] w fun e w' => e = .returned (.bool true) ∧ Below w.heap.size w w' := by
  have hu33 := Tryd.underlying33
  cases h with
  | false =>
    clear hok
    go_enter Tryd.func17, Tryd.ntmps17
    go_wp2
    go_ret
    exact ⟨rfl, ((Below.refl _ w).alloc (Nat.le_refl _) _).alloc (by rw [World.size_alloc]; omega) _⟩
  | true =>
    cases h' with
    | false => simp [lessB] at hok
    | true =>
      have q1 : decide (x' ≤ x) = true := by simpa [lessB] using hok
      clear hok
      go_enter Tryd.func17, Tryd.ntmps17
      go_wp2
      go_ret
      exact ⟨rfl, ((Below.refl _ w).alloc (Nat.le_refl _) _).alloc (by rw [World.size_alloc]; omega) _⟩
section
variable {P : Program} {ops : Array Oper} {rest : List Oper} {a : Act} {Q : Exit → Act → World → Prop} {w : World}
theorem st_yes {o : Oper} {v : Value} (hw : Region.wanted o (yielded ops a.tmps) = true) (hr : (execOp a.eval o).run P w = .ok (.value v) w) (h : wpList P ops Q rest (a.put o.dst v) w) : wpList P ops Q (o :: rest) a w := by
  unfold wpList
  rw [if_pos hw]
  left
  unfold Oper.wp
  rw [hr]
  exact h
theorem st_want {o : Oper} {t : Array Value} {j : Nat} {β : Bool} (hg : o.guard = some (j, true)) (hy : yielded ops t j = some β) : Region.wanted o (yielded ops t) = β := by
  unfold Region.wanted
  rw [hg]
  simp only [hy]
  cases β <;> rfl
theorem st_merge3 {o1 o2 o3 : Oper} {v1 v2 v3 : Value} {j1 j2 j3 : Nat} (β : Bool) (g1 : o1.guard = some (j1, true)) (g2 : o2.guard = some (j2, true)) (g3 : o3.guard = some (j3, true))
    (y1 : yielded ops a.tmps j1 = some β) (y2 : ∀ x, yielded ops (a.put o1.dst x).tmps j2 = some β) (y3 : ∀ x y, yielded ops ((a.put o1.dst x).put o2.dst y).tmps j3 = some β)
    (r1 : (execOp a.eval o1).run P w = .ok (.value v1) w) (r2 : (execOp (a.put o1.dst v1).eval o2).run P w = .ok (.value v2) w) (r3 : (execOp ((a.put o1.dst v1).put o2.dst v2).eval o3).run P w = .ok (.value v3) w)
    (h : ∀ x y z, (β = true → z = v3) → wpList P ops Q rest (((a.put o1.dst x).put o2.dst y).put o3.dst z) w) : wpList P ops Q (o1 :: o2 :: o3 :: rest) a w := by
  cases β with
  | true => exact st_yes (st_want g1 y1) r1 (st_yes (st_want g2 (y2 _)) r2 (st_yes (st_want g3 (y3 _ _)) r3 (h _ _ _ (fun _ => rfl))))
  | false => exact skip_guard (st_want g1 y1) (skip_guard (st_want g2 (y2 _)) (skip_guard (st_want g3 (y3 _ _)) (h _ _ _ (fun q => by cases q))))
theorem st_pick {e : Operand → Value} {o : Oper} {x y z : Operand} {β : Bool} {u : Value} (ho : o.op = .pick x y z) (hx : e x = .bool β) (hy : e y = u) (hz : e z = .bool false) (h : β = true → u = .bool false) : (execOp e o).run P w = .ok (.value (.bool false)) w := by
  unfold execOp
  simp only [ho, hx, hy, hz]
  cases β with
  | true => rw [h rfl]; rfl
  | false => rfl
end
theorem st_load {e : Operand → Value} {o : Oper} {x : Operand} {w : World} {p : Addr} {v : Value} (ho : o.op = .load 4 x) (hx : e x = .pointer (some p)) (hc : w.cell? p = some v) : (execOp e o).run Tryd.prog w = .ok (.value v) w := by
  unfold execOp
  simp only [ho, hx]
  go_simp
theorem st_one (c : Own.Ctl) : c.cells.all (·.oneCell') = true := by simp [Own.Ctl.cells, Value.oneCell']
set_option maxHeartbeats 4000000 in
set_option maxRecDepth 100000 in
theorem stri_own (k : Nat) (A0 : Option Addr) (c0 : Nat) (l0 : List ByteArray) (A1 : Option Addr) (c1 : Nat) (l1 : List ByteArray) (cp y : List ByteArray) (hy : y = cp ++ l1) (a b : Own.Ctl) (w : World) (hr0 : Kd.C Kd.string w A0 l0.length l0) (hc0 : l0.length ≤ c0) (hr1 : Kd.C Kd.string w A1 l1.length l1) (hc1 : l1.length ≤ c1)
    (h1 : sprlaw14_texts.f k l0 = some true) (h2 : sprlaw14_texts.f k l1 = some true) (ha : ccR k l0 = some a) (hcp : sprref_CopyTexts.f l0 = some cp) (hlen : cp.length + l1.length < 8796093022208) (hb : ccR k y = some b) (hfl : flagsB a b = true) (hnu : numsB a b = true) :
    Calls Tryd.prog 4 #[.slice A0 l0.length c0, .slice A1 l1.length c1] w fun e w' => e = .returned (.bool true) ∧ Below w.heap.size w w' := by
  have hu35 := Tryd.underlying35
  have hu33 := Tryd.underlying33
  have HR0 := Aside0.mk hr0
  have HR1 := Aside0.mk hr1
  have HC0 := Aside0.mk hc0
  have HC1 := Aside0.mk hc1
  have H1 := Aside0.mk h1
  have H2 := Aside0.mk h2
  have HPA := Aside0.mk ha
  have HPB := Aside0.mk hb
  have HCP := Aside0.mk hcp
  have HLEN := Aside0.mk hlen
  have HFL := Aside0.mk hfl
  have HNU := Aside0.mk hnu
  have NY := Aside0.mk hy
  have HB := Aside0.mk (Below.refl w.heap.size w)
  have HSA : Aside0 (some 21 = some a.cells.size) := ⟨rfl⟩
  have HSB : Aside0 (some 21 = some b.cells.size) := ⟨rfl⟩
  clear hr0 hr1 hc0 hc1 h1 h2 ha hb hcp hlen hfl hnu hy
  have T0 := Aside0.mk trivial
  go_enter Tryd.func4, Tryd.ntmps4
  go_upto_region 6 with (first | (go_at_call 8; (with_reducible refine (sprlaw14_first.own _).mono ?_); rintro e w1 ⟨rfl, hb⟩; have n0_ := Aside0.mk (HB.out.trans (hb.mono HB.out.size)); clear HB; have HB := n0_; clear n0_; clear hb) | (clear T0; go_at_call 9; (with_reducible refine (sprlaw14_texts.calls k A0 c0 l0 true _ (Kd.C_below HR0.out HB.out) HC0.out H1.out).mono ?_); rintro e w2 ⟨rfl, hb⟩; have n0_ := Aside0.mk (HB.out.trans (hb.mono HB.out.size)); clear HB; have HB := n0_; clear n0_; clear hb; have T1 := Aside0.mk trivial) | (clear T1; go_at_call 9; (with_reducible refine (sprlaw14_texts.calls k A1 c1 l1 true _ (Kd.C_below HR1.out HB.out) HC1.out H2.out).mono ?_); rintro e w3 ⟨rfl, hb⟩; have n0_ := Aside0.mk (HB.out.trans (hb.mono HB.out.size)); clear HB; have HB := n0_; clear n0_; clear hb; have T2 := Aside0.mk trivial) | (clear T2; go_at_call 14; (with_reducible refine (ccR_calls k A0 c0 l0 a _ (Kd.C_below HR0.out HB.out) HC0.out HPA.out).mono ?_); rintro e w4 ⟨rfl, hb⟩; have n0_ := Aside0.mk (HB.out.trans (hb.mono HB.out.size)); clear HB; have HB := n0_; clear n0_; clear hb; have T3 := Aside0.mk trivial) | (go_at_call 10; (with_reducible refine (sprref_CopyTexts.calls A0 c0 l0 cp _ (Kd.C_below HR0.out HB.out) HC0.out HCP.out).mono ?_); rintro e w5 ⟨v5, rfl, ho, hb⟩; have HO := Aside0.mk (Kd.R_lower ho HB.out.size); have n0_ := Aside0.mk (HB.out.trans (hb.mono HB.out.size)); clear HB; have HB := n0_; clear n0_; clear hb ho) | ((with_reducible refine gate_builtin (b := .append) (xs := #[.tmp 21, .tmp 22]) rfl ?_); at_builtin; refine Kd.R_append_rows Kd.string (w0 := w) w.heap.size rfl (.tmp 21) (.tmp 22) 22 9 (.string ⟨#[]⟩) 16 rfl Tryd.underlying22 info9 rfl (by decide) (by omega) v5 cp l1 _ _ _ (fun _ => True) (fun _ => False) rfl rfl HO.out (Kd.C_below HR1.out HB.out) (fun _ _ h => h) (fun _ h => h.elim) (fun _ _ => trivial) HB.out HB.out.size (by have := HLEN.out; omega) ?_; intro v6 w6 ho hb hg hat; rw [← NY.out] at ho; have HO6 := Aside0.mk ho; clear HB HO; have HB := Aside0.mk hb; clear ho hb hg hat; obtain ⟨A6, c6, e6⟩ := Kd.R_slice HO6.out; subst e6) | (clear T3; go_at_call 14; (with_reducible refine (ccR_calls k A6 c6 y b _ (Kd.R_reads' HO6.out).2.2 (Kd.R_reads' HO6.out).2.1 HPB.out).mono ?_); rintro e w7 ⟨rfl, hb⟩; have n0_ := Aside0.mk (HB.out.trans (hb.mono HB.out.size)); clear HB; have HB := n0_; clear n0_; clear hb HO6) | ((with_reducible refine gate_store (t := 35) (p := 5) rfl ?_); refine wpList_store_row rfl 35 _ _ rfl w7.heap.size a.cells rfl rfl 35 Own.Ctl.zero.cells (blk_alloc (blk_new w7 _) _) (cc_info.trans HSA.out) rfl (st_one a) ?_) | ((with_reducible refine gate_store (t := 35) (p := 6) rfl ?_); obtain ⟨wy, hwy⟩ : ∃ wy, wy = (w7.alloc (.cells #[.bool false, .bool false, .bool false, .bool false, .bool false, .bool false, .bool false, .bool false, .bool false, .bool false, .bool false, .bool false, .int .i64 0, .bool false, .int .i64 0, .bool false, .int .i64 0, .bool false, .int .i64 0, .bool false, .int .i64 0] 35)).alloc (.cells #[.bool false, .bool false, .bool false, .bool false, .bool false, .bool false, .bool false, .bool false, .bool false, .bool false, .bool false, .bool false, .int .i64 0, .bool false, .int .i64 0, .bool false, .int .i64 0, .bool false, .int .i64 0, .bool false, .int .i64 0] 35) := ⟨_, rfl⟩; have hby := (by rw [hwy]; exact (HB.out.alloc HB.out.size _).alloc (by rw [World.size_alloc]; have := HB.out.size; omega) _ : Below w.heap.size w wy); have hy0 := (by rw [hwy]; exact blk_alloc (blk_new w7 _) _ : wy.heap[w7.heap.size]? = some (.cells Own.Ctl.zero.cells 35 (0, 0))); have hy1 := (by rw [hwy]; exact heap_alloc2_new w7 _ _ : wy.heap[w7.heap.size + 1]? = some (.cells Own.Ctl.zero.cells 35 (0, 0))); obtain ⟨wv, hwv⟩ : ∃ wv, wv = wy.setRow w7.heap.size a.cells := ⟨_, rfl⟩; have hv1 := (by rw [hwv]; exact (setRow_other _ _ _ _ (by omega)).trans hy1 : wv.heap[w7.heap.size + 1]? = some (.cells Own.Ctl.zero.cells 35 (0, 0))); have hv0 := (by rw [hwv]; exact setRow_heap _ _ _ _ _ _ hy0 : wv.heap[w7.heap.size]? = some (.cells a.cells 35 (0, 0))); rw [← hwy, ← hwv]; refine wpList_store_row rfl 35 _ _ rfl (w7.heap.size + 1) b.cells rfl rfl 35 Own.Ctl.zero.cells hv1 (cc_info.trans HSB.out) rfl (st_one b) ?_; obtain ⟨wf, hwf⟩ : ∃ wf, wf = wv.setRow (w7.heap.size + 1) b.cells := ⟨_, rfl⟩; have HA := Aside0.mk (by rw [hwf]; exact (setRow_other _ _ _ _ (by omega)).trans hv0 : wf.heap[w7.heap.size]? = some (.cells a.cells 35 (0, 0))); have HBB := Aside0.mk (by rw [hwf]; exact setRow_heap _ _ _ _ _ _ hv1 : wf.heap[w7.heap.size + 1]? = some (.cells b.cells 35 (0, 0))); have HBF := Aside0.mk (by rw [hwf, hwv]; exact cc_below_setRow (cc_below_setRow hby HB.out.size _) (by have := HB.out.size; omega) _ : Below w.heap.size w wf); rw [← hwf]; clear hwf hwv hwy hy0 hy1 hv0 hv1 hby HB))
  have hfl := HFL.out
  unfold flagsB at hfl
  simp only [Bool.and_eq_true] at hfl
  obtain ⟨f0, f1, f2, f3, f4, f5, f6, f7, f8, f9⟩ := hfl
  have i0 : a.b0 = true → Value.bool (!b.b0) = .bool false := fun h => by rw [h] at f0; have : b.b0 = true := (by simpa using f0); rw [this]; rfl
  have i1 : a.b1 = true → Value.bool (!b.b1) = .bool false := fun h => by rw [h] at f1; have : b.b1 = true := (by simpa using f1); rw [this]; rfl
  have i2 : a.b2 = true → Value.bool (!b.b2) = .bool false := fun h => by rw [h] at f2; have : b.b2 = true := (by simpa using f2); rw [this]; rfl
  have i3 : a.b3 = true → Value.bool (!b.b3) = .bool false := fun h => by rw [h] at f3; have : b.b3 = true := (by simpa using f3); rw [this]; rfl
  have i4 : a.b4 = true → Value.bool (!b.b4) = .bool false := fun h => by rw [h] at f4; have : b.b4 = true := (by simpa using f4); rw [this]; rfl
  have i5 : a.b5 = true → Value.bool (!b.b5) = .bool false := fun h => by rw [h] at f5; have : b.b5 = true := (by simpa using f5); rw [this]; rfl
  have i6 : a.b6 = true → Value.bool (!b.b6) = .bool false := fun h => by rw [h] at f6; have : b.b6 = true := (by simpa using f6); rw [this]; rfl
  have i7 : a.b7 = true → Value.bool (!b.b7) = .bool false := fun h => by rw [h] at f7; have : b.b7 = true := (by simpa using f7); rw [this]; rfl
  have i8 : a.b8 = true → Value.bool (!b.b8) = .bool false := fun h => by rw [h] at f8; have : b.b8 = true := (by simpa using f8); rw [this]; rfl
  have i9 : a.b9 = true → Value.bool (!b.b9) = .bool false := fun h => by rw [h] at f9; have : b.b9 = true := (by simpa using f9); rw [this]; rfl
  clear f0 f1 f2 f3 f4 f5 f6 f7 f8 f9
  have ca0 := (blk_cell HA.out 0).trans (show a.cells[0]? = some (.bool a.b0) from rfl)
  have cb0 := (blk_cell HBB.out 0).trans (show b.cells[0]? = some (.bool b.b0) from rfl)
  have ca1 := (blk_cell HA.out 1).trans (show a.cells[1]? = some (.bool a.b1) from rfl)
  have cb1 := (blk_cell HBB.out 1).trans (show b.cells[1]? = some (.bool b.b1) from rfl)
  have ca2 := (blk_cell HA.out 2).trans (show a.cells[2]? = some (.bool a.b2) from rfl)
  have cb2 := (blk_cell HBB.out 2).trans (show b.cells[2]? = some (.bool b.b2) from rfl)
  have ca3 := (blk_cell HA.out 3).trans (show a.cells[3]? = some (.bool a.b3) from rfl)
  have cb3 := (blk_cell HBB.out 3).trans (show b.cells[3]? = some (.bool b.b3) from rfl)
  have ca4 := (blk_cell HA.out 4).trans (show a.cells[4]? = some (.bool a.b4) from rfl)
  have cb4 := (blk_cell HBB.out 4).trans (show b.cells[4]? = some (.bool b.b4) from rfl)
  have ca5 := (blk_cell HA.out 5).trans (show a.cells[5]? = some (.bool a.b5) from rfl)
  have cb5 := (blk_cell HBB.out 5).trans (show b.cells[5]? = some (.bool b.b5) from rfl)
  have ca6 := (blk_cell HA.out 6).trans (show a.cells[6]? = some (.bool a.b6) from rfl)
  have cb6 := (blk_cell HBB.out 6).trans (show b.cells[6]? = some (.bool b.b6) from rfl)
  have ca7 := (blk_cell HA.out 7).trans (show a.cells[7]? = some (.bool a.b7) from rfl)
  have cb7 := (blk_cell HBB.out 7).trans (show b.cells[7]? = some (.bool b.b7) from rfl)
  have ca8 := (blk_cell HA.out 8).trans (show a.cells[8]? = some (.bool a.b8) from rfl)
  have cb8 := (blk_cell HBB.out 8).trans (show b.cells[8]? = some (.bool b.b8) from rfl)
  have ca9 := (blk_cell HA.out 9).trans (show a.cells[9]? = some (.bool a.b9) from rfl)
  have cb9 := (blk_cell HBB.out 9).trans (show b.cells[9]? = some (.bool b.b9) from rfl)
  refine wp_region_lit ?_
  refine st_yes (v := .pointer (some ⟨w7.heap.size, 0, none⟩)) (by kernel_rfl) (by kernel_rfl) ?_
  simp only [Act.put, List.setIfInBounds_toArray, List.set_cons_zero, List.set_cons_succ]
  refine st_yes (v := .bool a.b0) (by kernel_rfl) (st_load rfl rfl ca0) ?_
  simp only [Act.put, List.setIfInBounds_toArray, List.set_cons_zero, List.set_cons_succ]
  refine st_yes (v := .bool a.b0) (by kernel_rfl) (by kernel_rfl) ?_
  simp only [Act.put, List.setIfInBounds_toArray, List.set_cons_zero, List.set_cons_succ]
  refine st_merge3 (v1 := .pointer (some ⟨w7.heap.size + 1, 0, none⟩)) (v2 := .bool b.b0) (v3 := .bool (!b.b0)) a.b0 rfl rfl rfl (by kernel_rfl) (fun _ => by kernel_rfl) (fun _ _ => by kernel_rfl) (by kernel_rfl) (st_load rfl rfl cb0) (by kernel_rfl) ?_
  intro x0 y0 z0 hz0
  simp only [Act.put, List.setIfInBounds_toArray, List.set_cons_zero, List.set_cons_succ]
  refine st_yes (v := .bool false) (by kernel_rfl) (st_pick rfl rfl rfl rfl (fun h => (hz0 h).trans (i0 h))) ?_
  simp only [Act.put, List.setIfInBounds_toArray, List.set_cons_zero, List.set_cons_succ]
  refine st_yes (v := .bool false) (by kernel_rfl) (by kernel_rfl) ?_
  simp only [Act.put, List.setIfInBounds_toArray, List.set_cons_zero, List.set_cons_succ]
  refine st_yes (v := .pointer (some ⟨w7.heap.size, 1, none⟩)) (by kernel_rfl) (by kernel_rfl) ?_
  simp only [Act.put, List.setIfInBounds_toArray, List.set_cons_zero, List.set_cons_succ]
  refine st_yes (v := .bool a.b1) (by kernel_rfl) (st_load rfl rfl ca1) ?_
  simp only [Act.put, List.setIfInBounds_toArray, List.set_cons_zero, List.set_cons_succ]
  refine st_yes (v := .bool a.b1) (by kernel_rfl) (by kernel_rfl) ?_
  simp only [Act.put, List.setIfInBounds_toArray, List.set_cons_zero, List.set_cons_succ]
  refine st_merge3 (v1 := .pointer (some ⟨w7.heap.size + 1, 1, none⟩)) (v2 := .bool b.b1) (v3 := .bool (!b.b1)) a.b1 rfl rfl rfl (by kernel_rfl) (fun _ => by kernel_rfl) (fun _ _ => by kernel_rfl) (by kernel_rfl) (st_load rfl rfl cb1) (by kernel_rfl) ?_
  intro x1 y1 z1 hz1
  simp only [Act.put, List.setIfInBounds_toArray, List.set_cons_zero, List.set_cons_succ]
  refine st_yes (v := .bool false) (by kernel_rfl) (st_pick rfl rfl rfl rfl (fun h => (hz1 h).trans (i1 h))) ?_
  simp only [Act.put, List.setIfInBounds_toArray, List.set_cons_zero, List.set_cons_succ]
  refine st_yes (v := .bool false) (by kernel_rfl) (by kernel_rfl) ?_
  simp only [Act.put, List.setIfInBounds_toArray, List.set_cons_zero, List.set_cons_succ]
  refine st_yes (v := .bool false) (by kernel_rfl) (by kernel_rfl) ?_
  simp only [Act.put, List.setIfInBounds_toArray, List.set_cons_zero, List.set_cons_succ]
  refine st_yes (v := .pointer (some ⟨w7.heap.size, 2, none⟩)) (by kernel_rfl) (by kernel_rfl) ?_
  simp only [Act.put, List.setIfInBounds_toArray, List.set_cons_zero, List.set_cons_succ]
  refine st_yes (v := .bool a.b2) (by kernel_rfl) (st_load rfl rfl ca2) ?_
  simp only [Act.put, List.setIfInBounds_toArray, List.set_cons_zero, List.set_cons_succ]
  refine st_yes (v := .bool a.b2) (by kernel_rfl) (by kernel_rfl) ?_
  simp only [Act.put, List.setIfInBounds_toArray, List.set_cons_zero, List.set_cons_succ]
  refine st_merge3 (v1 := .pointer (some ⟨w7.heap.size + 1, 2, none⟩)) (v2 := .bool b.b2) (v3 := .bool (!b.b2)) a.b2 rfl rfl rfl (by kernel_rfl) (fun _ => by kernel_rfl) (fun _ _ => by kernel_rfl) (by kernel_rfl) (st_load rfl rfl cb2) (by kernel_rfl) ?_
  intro x2 y2 z2 hz2
  simp only [Act.put, List.setIfInBounds_toArray, List.set_cons_zero, List.set_cons_succ]
  refine st_yes (v := .bool false) (by kernel_rfl) (st_pick rfl rfl rfl rfl (fun h => (hz2 h).trans (i2 h))) ?_
  simp only [Act.put, List.setIfInBounds_toArray, List.set_cons_zero, List.set_cons_succ]
  refine st_yes (v := .bool false) (by kernel_rfl) (by kernel_rfl) ?_
  simp only [Act.put, List.setIfInBounds_toArray, List.set_cons_zero, List.set_cons_succ]
  refine st_yes (v := .bool false) (by kernel_rfl) (by kernel_rfl) ?_
  simp only [Act.put, List.setIfInBounds_toArray, List.set_cons_zero, List.set_cons_succ]
  refine st_yes (v := .pointer (some ⟨w7.heap.size, 3, none⟩)) (by kernel_rfl) (by kernel_rfl) ?_
  simp only [Act.put, List.setIfInBounds_toArray, List.set_cons_zero, List.set_cons_succ]
  refine st_yes (v := .bool a.b3) (by kernel_rfl) (st_load rfl rfl ca3) ?_
  simp only [Act.put, List.setIfInBounds_toArray, List.set_cons_zero, List.set_cons_succ]
  refine st_yes (v := .bool a.b3) (by kernel_rfl) (by kernel_rfl) ?_
  simp only [Act.put, List.setIfInBounds_toArray, List.set_cons_zero, List.set_cons_succ]
  refine st_merge3 (v1 := .pointer (some ⟨w7.heap.size + 1, 3, none⟩)) (v2 := .bool b.b3) (v3 := .bool (!b.b3)) a.b3 rfl rfl rfl (by kernel_rfl) (fun _ => by kernel_rfl) (fun _ _ => by kernel_rfl) (by kernel_rfl) (st_load rfl rfl cb3) (by kernel_rfl) ?_
  intro x3 y3 z3 hz3
  simp only [Act.put, List.setIfInBounds_toArray, List.set_cons_zero, List.set_cons_succ]
  refine st_yes (v := .bool false) (by kernel_rfl) (st_pick rfl rfl rfl rfl (fun h => (hz3 h).trans (i3 h))) ?_
  simp only [Act.put, List.setIfInBounds_toArray, List.set_cons_zero, List.set_cons_succ]
  refine st_yes (v := .bool false) (by kernel_rfl) (by kernel_rfl) ?_
  simp only [Act.put, List.setIfInBounds_toArray, List.set_cons_zero, List.set_cons_succ]
  refine st_yes (v := .bool false) (by kernel_rfl) (by kernel_rfl) ?_
  simp only [Act.put, List.setIfInBounds_toArray, List.set_cons_zero, List.set_cons_succ]
  refine st_yes (v := .pointer (some ⟨w7.heap.size, 4, none⟩)) (by kernel_rfl) (by kernel_rfl) ?_
  simp only [Act.put, List.setIfInBounds_toArray, List.set_cons_zero, List.set_cons_succ]
  refine st_yes (v := .bool a.b4) (by kernel_rfl) (st_load rfl rfl ca4) ?_
  simp only [Act.put, List.setIfInBounds_toArray, List.set_cons_zero, List.set_cons_succ]
  refine st_yes (v := .bool a.b4) (by kernel_rfl) (by kernel_rfl) ?_
  simp only [Act.put, List.setIfInBounds_toArray, List.set_cons_zero, List.set_cons_succ]
  refine st_merge3 (v1 := .pointer (some ⟨w7.heap.size + 1, 4, none⟩)) (v2 := .bool b.b4) (v3 := .bool (!b.b4)) a.b4 rfl rfl rfl (by kernel_rfl) (fun _ => by kernel_rfl) (fun _ _ => by kernel_rfl) (by kernel_rfl) (st_load rfl rfl cb4) (by kernel_rfl) ?_
  intro x4 y4 z4 hz4
  simp only [Act.put, List.setIfInBounds_toArray, List.set_cons_zero, List.set_cons_succ]
  refine st_yes (v := .bool false) (by kernel_rfl) (st_pick rfl rfl rfl rfl (fun h => (hz4 h).trans (i4 h))) ?_
  simp only [Act.put, List.setIfInBounds_toArray, List.set_cons_zero, List.set_cons_succ]
  refine st_yes (v := .bool false) (by kernel_rfl) (by kernel_rfl) ?_
  simp only [Act.put, List.setIfInBounds_toArray, List.set_cons_zero, List.set_cons_succ]
  refine st_yes (v := .bool false) (by kernel_rfl) (by kernel_rfl) ?_
  simp only [Act.put, List.setIfInBounds_toArray, List.set_cons_zero, List.set_cons_succ]
  refine st_yes (v := .pointer (some ⟨w7.heap.size, 5, none⟩)) (by kernel_rfl) (by kernel_rfl) ?_
  simp only [Act.put, List.setIfInBounds_toArray, List.set_cons_zero, List.set_cons_succ]
  refine st_yes (v := .bool a.b5) (by kernel_rfl) (st_load rfl rfl ca5) ?_
  simp only [Act.put, List.setIfInBounds_toArray, List.set_cons_zero, List.set_cons_succ]
  refine st_yes (v := .bool a.b5) (by kernel_rfl) (by kernel_rfl) ?_
  simp only [Act.put, List.setIfInBounds_toArray, List.set_cons_zero, List.set_cons_succ]
  refine st_merge3 (v1 := .pointer (some ⟨w7.heap.size + 1, 5, none⟩)) (v2 := .bool b.b5) (v3 := .bool (!b.b5)) a.b5 rfl rfl rfl (by kernel_rfl) (fun _ => by kernel_rfl) (fun _ _ => by kernel_rfl) (by kernel_rfl) (st_load rfl rfl cb5) (by kernel_rfl) ?_
  intro x5 y5 z5 hz5
  simp only [Act.put, List.setIfInBounds_toArray, List.set_cons_zero, List.set_cons_succ]
  refine st_yes (v := .bool false) (by kernel_rfl) (st_pick rfl rfl rfl rfl (fun h => (hz5 h).trans (i5 h))) ?_
  simp only [Act.put, List.setIfInBounds_toArray, List.set_cons_zero, List.set_cons_succ]
  refine st_yes (v := .bool false) (by kernel_rfl) (by kernel_rfl) ?_
  simp only [Act.put, List.setIfInBounds_toArray, List.set_cons_zero, List.set_cons_succ]
  refine st_yes (v := .bool false) (by kernel_rfl) (by kernel_rfl) ?_
  simp only [Act.put, List.setIfInBounds_toArray, List.set_cons_zero, List.set_cons_succ]
  refine st_yes (v := .pointer (some ⟨w7.heap.size, 6, none⟩)) (by kernel_rfl) (by kernel_rfl) ?_
  simp only [Act.put, List.setIfInBounds_toArray, List.set_cons_zero, List.set_cons_succ]
  refine st_yes (v := .bool a.b6) (by kernel_rfl) (st_load rfl rfl ca6) ?_
  simp only [Act.put, List.setIfInBounds_toArray, List.set_cons_zero, List.set_cons_succ]
  refine st_yes (v := .bool a.b6) (by kernel_rfl) (by kernel_rfl) ?_
  simp only [Act.put, List.setIfInBounds_toArray, List.set_cons_zero, List.set_cons_succ]
  refine st_merge3 (v1 := .pointer (some ⟨w7.heap.size + 1, 6, none⟩)) (v2 := .bool b.b6) (v3 := .bool (!b.b6)) a.b6 rfl rfl rfl (by kernel_rfl) (fun _ => by kernel_rfl) (fun _ _ => by kernel_rfl) (by kernel_rfl) (st_load rfl rfl cb6) (by kernel_rfl) ?_
  intro x6 y6 z6 hz6
  simp only [Act.put, List.setIfInBounds_toArray, List.set_cons_zero, List.set_cons_succ]
  refine st_yes (v := .bool false) (by kernel_rfl) (st_pick rfl rfl rfl rfl (fun h => (hz6 h).trans (i6 h))) ?_
  simp only [Act.put, List.setIfInBounds_toArray, List.set_cons_zero, List.set_cons_succ]
  refine st_yes (v := .bool false) (by kernel_rfl) (by kernel_rfl) ?_
  simp only [Act.put, List.setIfInBounds_toArray, List.set_cons_zero, List.set_cons_succ]
  refine st_yes (v := .bool false) (by kernel_rfl) (by kernel_rfl) ?_
  simp only [Act.put, List.setIfInBounds_toArray, List.set_cons_zero, List.set_cons_succ]
  refine st_yes (v := .pointer (some ⟨w7.heap.size, 7, none⟩)) (by kernel_rfl) (by kernel_rfl) ?_
  simp only [Act.put, List.setIfInBounds_toArray, List.set_cons_zero, List.set_cons_succ]
  refine st_yes (v := .bool a.b7) (by kernel_rfl) (st_load rfl rfl ca7) ?_
  simp only [Act.put, List.setIfInBounds_toArray, List.set_cons_zero, List.set_cons_succ]
  refine st_yes (v := .bool a.b7) (by kernel_rfl) (by kernel_rfl) ?_
  simp only [Act.put, List.setIfInBounds_toArray, List.set_cons_zero, List.set_cons_succ]
  refine st_merge3 (v1 := .pointer (some ⟨w7.heap.size + 1, 7, none⟩)) (v2 := .bool b.b7) (v3 := .bool (!b.b7)) a.b7 rfl rfl rfl (by kernel_rfl) (fun _ => by kernel_rfl) (fun _ _ => by kernel_rfl) (by kernel_rfl) (st_load rfl rfl cb7) (by kernel_rfl) ?_
  intro x7 y7 z7 hz7
  simp only [Act.put, List.setIfInBounds_toArray, List.set_cons_zero, List.set_cons_succ]
  refine st_yes (v := .bool false) (by kernel_rfl) (st_pick rfl rfl rfl rfl (fun h => (hz7 h).trans (i7 h))) ?_
  simp only [Act.put, List.setIfInBounds_toArray, List.set_cons_zero, List.set_cons_succ]
  refine st_yes (v := .bool false) (by kernel_rfl) (by kernel_rfl) ?_
  simp only [Act.put, List.setIfInBounds_toArray, List.set_cons_zero, List.set_cons_succ]
  refine st_yes (v := .bool false) (by kernel_rfl) (by kernel_rfl) ?_
  simp only [Act.put, List.setIfInBounds_toArray, List.set_cons_zero, List.set_cons_succ]
  refine st_yes (v := .pointer (some ⟨w7.heap.size, 8, none⟩)) (by kernel_rfl) (by kernel_rfl) ?_
  simp only [Act.put, List.setIfInBounds_toArray, List.set_cons_zero, List.set_cons_succ]
  refine st_yes (v := .bool a.b8) (by kernel_rfl) (st_load rfl rfl ca8) ?_
  simp only [Act.put, List.setIfInBounds_toArray, List.set_cons_zero, List.set_cons_succ]
  refine st_yes (v := .bool a.b8) (by kernel_rfl) (by kernel_rfl) ?_
  simp only [Act.put, List.setIfInBounds_toArray, List.set_cons_zero, List.set_cons_succ]
  refine st_merge3 (v1 := .pointer (some ⟨w7.heap.size + 1, 8, none⟩)) (v2 := .bool b.b8) (v3 := .bool (!b.b8)) a.b8 rfl rfl rfl (by kernel_rfl) (fun _ => by kernel_rfl) (fun _ _ => by kernel_rfl) (by kernel_rfl) (st_load rfl rfl cb8) (by kernel_rfl) ?_
  intro x8 y8 z8 hz8
  simp only [Act.put, List.setIfInBounds_toArray, List.set_cons_zero, List.set_cons_succ]
  refine st_yes (v := .bool false) (by kernel_rfl) (st_pick rfl rfl rfl rfl (fun h => (hz8 h).trans (i8 h))) ?_
  simp only [Act.put, List.setIfInBounds_toArray, List.set_cons_zero, List.set_cons_succ]
  refine st_yes (v := .bool false) (by kernel_rfl) (by kernel_rfl) ?_
  simp only [Act.put, List.setIfInBounds_toArray, List.set_cons_zero, List.set_cons_succ]
  refine st_yes (v := .bool false) (by kernel_rfl) (by kernel_rfl) ?_
  simp only [Act.put, List.setIfInBounds_toArray, List.set_cons_zero, List.set_cons_succ]
  refine st_yes (v := .pointer (some ⟨w7.heap.size, 9, none⟩)) (by kernel_rfl) (by kernel_rfl) ?_
  simp only [Act.put, List.setIfInBounds_toArray, List.set_cons_zero, List.set_cons_succ]
  refine st_yes (v := .bool a.b9) (by kernel_rfl) (st_load rfl rfl ca9) ?_
  simp only [Act.put, List.setIfInBounds_toArray, List.set_cons_zero, List.set_cons_succ]
  refine st_yes (v := .bool a.b9) (by kernel_rfl) (by kernel_rfl) ?_
  simp only [Act.put, List.setIfInBounds_toArray, List.set_cons_zero, List.set_cons_succ]
  refine st_merge3 (v1 := .pointer (some ⟨w7.heap.size + 1, 9, none⟩)) (v2 := .bool b.b9) (v3 := .bool (!b.b9)) a.b9 rfl rfl rfl (by kernel_rfl) (fun _ => by kernel_rfl) (fun _ _ => by kernel_rfl) (by kernel_rfl) (st_load rfl rfl cb9) (by kernel_rfl) ?_
  intro x9 y9 z9 hz9
  simp only [Act.put, List.setIfInBounds_toArray, List.set_cons_zero, List.set_cons_succ]
  refine st_yes (v := .bool false) (by kernel_rfl) (st_pick rfl rfl rfl rfl (fun h => (hz9 h).trans (i9 h))) ?_
  simp only [Act.put, List.setIfInBounds_toArray, List.set_cons_zero, List.set_cons_succ]
  refine st_yes (v := .bool false) (by kernel_rfl) (by kernel_rfl) ?_
  simp only [Act.put, List.setIfInBounds_toArray, List.set_cons_zero, List.set_cons_succ]
  refine wpList_nil ?_
  clear ca0 cb0 i0 hz0 ca1 cb1 i1 hz1 ca2 cb2 i2 hz2 ca3 cb3 i3 hz3 ca4 cb4 i4 hz4 ca5 cb5 i5 hz5 ca6 cb6 i6 hz6 ca7 cb7 i7 hz7 ca8 cb8 i8 hz8 ca9 cb9 i9 hz9
  have hnu := HNU.out
  unfold numsB at hnu
  simp only [Bool.and_eq_true] at hnu
  obtain ⟨l1, l2, l3, l4, l5⟩ := hnu
  have L1 := Aside0.mk l1
  have L2 := Aside0.mk l2
  have L3 := Aside0.mk l3
  have L4 := Aside0.mk l4
  have L1 := Aside0.mk l1
  have L2 := Aside0.mk l2
  have L3 := Aside0.mk l3
  have L4 := Aside0.mk l4
  clear l1 l2 l3 l4
  have T4 := Aside0.mk trivial
  cases hq : a.h3 with
  | false =>
    have HQ := Aside0.mk hq
    clear hq l5
    go_wp2_with (first | (clear T4; go_at_call 8; (with_reducible refine (sprlaw14_first.own _).mono ?_); rintro e w8 ⟨rfl, hb⟩; have n0_ := Aside0.mk (HBF.out.trans (hb.mono HBF.out.size)); have n1_ := Aside0.mk (blk_below HA.out hb); have n2_ := Aside0.mk (blk_below HBB.out hb); clear HBF HA HBB; have HBF := n0_; have HA := n1_; have HBB := n2_; clear n0_ n1_ n2_ hb; have ca11 := (blk_cell HA.out 11).trans (show a.cells[11]? = some (.bool a.h0) from rfl); have ca12 := (blk_cell HA.out 12).trans (show a.cells[12]? = some (.int .i64 a.n0) from rfl); have cb11 := (blk_cell HBB.out 11).trans (show b.cells[11]? = some (.bool b.h0) from rfl); have cb12 := (blk_cell HBB.out 12).trans (show b.cells[12]? = some (.int .i64 b.n0) from rfl); have T5 := Aside0.mk trivial) | (clear T5; go_at_call 17; (with_reducible refine (less_own a.h0 a.n0 b.h0 b.n0 L1.out _).mono ?_); rintro e w9 ⟨rfl, hb⟩; clear ca11 ca12 cb11 cb12; have n0_ := Aside0.mk (HBF.out.trans (hb.mono HBF.out.size)); have n1_ := Aside0.mk (blk_below HA.out hb); have n2_ := Aside0.mk (blk_below HBB.out hb); clear HBF HA HBB; have HBF := n0_; have HA := n1_; have HBB := n2_; clear n0_ n1_ n2_ hb; have ca13 := (blk_cell HA.out 13).trans (show a.cells[13]? = some (.bool a.h1) from rfl); have ca14 := (blk_cell HA.out 14).trans (show a.cells[14]? = some (.int .i64 a.n1) from rfl); have cb13 := (blk_cell HBB.out 13).trans (show b.cells[13]? = some (.bool b.h1) from rfl); have cb14 := (blk_cell HBB.out 14).trans (show b.cells[14]? = some (.int .i64 b.n1) from rfl); have T6 := Aside0.mk trivial) | (clear T6; go_at_call 17; (with_reducible refine (less_own a.h1 a.n1 b.h1 b.n1 L2.out _).mono ?_); rintro e w10 ⟨rfl, hb⟩; clear ca13 ca14 cb13 cb14; have n0_ := Aside0.mk (HBF.out.trans (hb.mono HBF.out.size)); have n1_ := Aside0.mk (blk_below HA.out hb); have n2_ := Aside0.mk (blk_below HBB.out hb); clear HBF HA HBB; have HBF := n0_; have HA := n1_; have HBB := n2_; clear n0_ n1_ n2_ hb; have ca15 := (blk_cell HA.out 15).trans (show a.cells[15]? = some (.bool a.h2) from rfl); have ca16 := (blk_cell HA.out 16).trans (show a.cells[16]? = some (.int .i64 a.n2) from rfl); have cb15 := (blk_cell HBB.out 15).trans (show b.cells[15]? = some (.bool b.h2) from rfl); have cb16 := (blk_cell HBB.out 16).trans (show b.cells[16]? = some (.int .i64 b.n2) from rfl); have T7 := Aside0.mk trivial) | (clear T7; go_at_call 17; (with_reducible refine (less_own a.h2 a.n2 b.h2 b.n2 L3.out _).mono ?_); rintro e w11 ⟨rfl, hb⟩; clear ca15 ca16 cb15 cb16; have n0_ := Aside0.mk (HBF.out.trans (hb.mono HBF.out.size)); have n1_ := Aside0.mk (blk_below HA.out hb); have n2_ := Aside0.mk (blk_below HBB.out hb); clear HBF HA HBB; have HBF := n0_; have HA := n1_; have HBB := n2_; clear n0_ n1_ n2_ hb; have ca19 := (blk_cell HA.out 19).trans (show a.cells[19]? = some (.bool a.h4) from rfl); have ca20 := (blk_cell HA.out 20).trans (show a.cells[20]? = some (.int .i64 a.n4) from rfl); have cb19 := (blk_cell HBB.out 19).trans (show b.cells[19]? = some (.bool b.h4) from rfl); have cb20 := (blk_cell HBB.out 20).trans (show b.cells[20]? = some (.int .i64 b.n4) from rfl); have T8 := Aside0.mk trivial) | (clear T8; go_at_call 17; (with_reducible refine (less_own a.h4 a.n4 b.h4 b.n4 L4.out _).mono ?_); rintro e w12 ⟨rfl, hb⟩; clear ca19 ca20 cb19 cb20; have n0_ := Aside0.mk (HBF.out.trans (hb.mono HBF.out.size)); have n1_ := Aside0.mk (blk_below HA.out hb); have n2_ := Aside0.mk (blk_below HBB.out hb); clear HBF HA HBB; have HBF := n0_; have HA := n1_; have HBB := n2_; clear n0_ n1_ n2_ hb; have ca17 := (blk_cell HA.out 17).trans (show a.cells[17]? = some (.bool false) by show some (Value.bool a.h3) = _; rw [HQ.out]); have T9 := Aside0.mk trivial))
    go_ret
    exact ⟨rfl, HBF.out⟩
  | true =>
    have HQ := Aside0.mk hq
    rw [hq] at l5
    simp only [Bool.not_true, Bool.false_or, Bool.and_eq_true] at l5
    obtain ⟨q1, q2⟩ := l5
    have Q1 := Aside0.mk q1
    have q3 : decide (b.n3 ≥ a.n3) = true := q2
    clear q1 hq
    go_wp2_with (first | (clear T4; go_at_call 8; (with_reducible refine (sprlaw14_first.own _).mono ?_); rintro e w8 ⟨rfl, hb⟩; have n0_ := Aside0.mk (HBF.out.trans (hb.mono HBF.out.size)); have n1_ := Aside0.mk (blk_below HA.out hb); have n2_ := Aside0.mk (blk_below HBB.out hb); clear HBF HA HBB; have HBF := n0_; have HA := n1_; have HBB := n2_; clear n0_ n1_ n2_ hb; have ca11 := (blk_cell HA.out 11).trans (show a.cells[11]? = some (.bool a.h0) from rfl); have ca12 := (blk_cell HA.out 12).trans (show a.cells[12]? = some (.int .i64 a.n0) from rfl); have cb11 := (blk_cell HBB.out 11).trans (show b.cells[11]? = some (.bool b.h0) from rfl); have cb12 := (blk_cell HBB.out 12).trans (show b.cells[12]? = some (.int .i64 b.n0) from rfl); have T5 := Aside0.mk trivial) | (clear T5; go_at_call 17; (with_reducible refine (less_own a.h0 a.n0 b.h0 b.n0 L1.out _).mono ?_); rintro e w9 ⟨rfl, hb⟩; clear ca11 ca12 cb11 cb12; have n0_ := Aside0.mk (HBF.out.trans (hb.mono HBF.out.size)); have n1_ := Aside0.mk (blk_below HA.out hb); have n2_ := Aside0.mk (blk_below HBB.out hb); clear HBF HA HBB; have HBF := n0_; have HA := n1_; have HBB := n2_; clear n0_ n1_ n2_ hb; have ca13 := (blk_cell HA.out 13).trans (show a.cells[13]? = some (.bool a.h1) from rfl); have ca14 := (blk_cell HA.out 14).trans (show a.cells[14]? = some (.int .i64 a.n1) from rfl); have cb13 := (blk_cell HBB.out 13).trans (show b.cells[13]? = some (.bool b.h1) from rfl); have cb14 := (blk_cell HBB.out 14).trans (show b.cells[14]? = some (.int .i64 b.n1) from rfl); have T6 := Aside0.mk trivial) | (clear T6; go_at_call 17; (with_reducible refine (less_own a.h1 a.n1 b.h1 b.n1 L2.out _).mono ?_); rintro e w10 ⟨rfl, hb⟩; clear ca13 ca14 cb13 cb14; have n0_ := Aside0.mk (HBF.out.trans (hb.mono HBF.out.size)); have n1_ := Aside0.mk (blk_below HA.out hb); have n2_ := Aside0.mk (blk_below HBB.out hb); clear HBF HA HBB; have HBF := n0_; have HA := n1_; have HBB := n2_; clear n0_ n1_ n2_ hb; have ca15 := (blk_cell HA.out 15).trans (show a.cells[15]? = some (.bool a.h2) from rfl); have ca16 := (blk_cell HA.out 16).trans (show a.cells[16]? = some (.int .i64 a.n2) from rfl); have cb15 := (blk_cell HBB.out 15).trans (show b.cells[15]? = some (.bool b.h2) from rfl); have cb16 := (blk_cell HBB.out 16).trans (show b.cells[16]? = some (.int .i64 b.n2) from rfl); have T7 := Aside0.mk trivial) | (clear T7; go_at_call 17; (with_reducible refine (less_own a.h2 a.n2 b.h2 b.n2 L3.out _).mono ?_); rintro e w11 ⟨rfl, hb⟩; clear ca15 ca16 cb15 cb16; have n0_ := Aside0.mk (HBF.out.trans (hb.mono HBF.out.size)); have n1_ := Aside0.mk (blk_below HA.out hb); have n2_ := Aside0.mk (blk_below HBB.out hb); clear HBF HA HBB; have HBF := n0_; have HA := n1_; have HBB := n2_; clear n0_ n1_ n2_ hb; have ca19 := (blk_cell HA.out 19).trans (show a.cells[19]? = some (.bool a.h4) from rfl); have ca20 := (blk_cell HA.out 20).trans (show a.cells[20]? = some (.int .i64 a.n4) from rfl); have cb19 := (blk_cell HBB.out 19).trans (show b.cells[19]? = some (.bool b.h4) from rfl); have cb20 := (blk_cell HBB.out 20).trans (show b.cells[20]? = some (.int .i64 b.n4) from rfl); have T8 := Aside0.mk trivial) | (clear T8; go_at_call 17; (with_reducible refine (less_own a.h4 a.n4 b.h4 b.n4 L4.out _).mono ?_); rintro e w12 ⟨rfl, hb⟩; clear ca19 ca20 cb19 cb20; have n0_ := Aside0.mk (HBF.out.trans (hb.mono HBF.out.size)); have n1_ := Aside0.mk (blk_below HA.out hb); have n2_ := Aside0.mk (blk_below HBB.out hb); clear HBF HA HBB; have HBF := n0_; have HA := n1_; have HBB := n2_; clear n0_ n1_ n2_ hb; have ca17 := (blk_cell HA.out 17).trans (show a.cells[17]? = some (.bool true) by show some (Value.bool a.h3) = _; rw [HQ.out]); have cb17 := (blk_cell HBB.out 17).trans (show b.cells[17]? = some (.bool true) by show some (Value.bool b.h3) = _; rw [Q1.out]); have ca18 := (blk_cell HA.out 18).trans (show a.cells[18]? = some (.int .i64 a.n3) from rfl); have cb18 := (blk_cell HBB.out 18).trans (show b.cells[18]? = some (.int .i64 b.n3) from rfl); have T9 := Aside0.mk trivial))
    go_ret
    exact ⟨rfl, HBF.out⟩
set_option maxHeartbeats 1000000 in
set_option maxRecDepth 100000 in
theorem stri_small1 (k : Nat) (A0 : Option Addr) (c0 : Nat) (l0 : List ByteArray) (v1 : Value) (w : World) (hr0 : Kd.C Kd.string w A0 l0.length l0) (hc0 : l0.length ≤ c0) (h1 : sprlaw14_texts.f k l0 = some false) :
    Calls Tryd.prog 4 #[.slice A0 l0.length c0, v1] w fun e w' => e = .returned (.bool true) ∧ Below w.heap.size w w' := by
  have HR0 := Aside0.mk hr0
  have HC0 := Aside0.mk hc0
  have H1 := Aside0.mk h1
  have HB := Aside0.mk (Below.refl w.heap.size w)
  clear hr0 hc0 h1
  go_enter Tryd.func4, Tryd.ntmps4
  go_wp2_with (first | (go_at_call 8; (with_reducible refine (sprlaw14_first.own _).mono ?_); rintro e w1 ⟨rfl, hb⟩; have n0_ := Aside0.mk (HB.out.trans (hb.mono HB.out.size)); clear HB hb; have HB := n0_; clear n0_) | (go_at_call 9; (with_reducible refine (sprlaw14_texts.calls k A0 c0 l0 false _ (Kd.C_below HR0.out HB.out) HC0.out H1.out).mono ?_); rintro e w2 ⟨rfl, hb⟩; have n0_ := Aside0.mk (HB.out.trans (hb.mono HB.out.size)); clear HB hb; have HB := n0_; clear n0_))
  go_ret
  exact ⟨rfl, HB.out⟩
set_option maxHeartbeats 1000000 in
set_option maxRecDepth 100000 in
theorem stri_small2 (k : Nat) (A0 : Option Addr) (c0 : Nat) (l0 : List ByteArray) (A1 : Option Addr) (c1 : Nat) (l1 : List ByteArray) (w : World) (hr0 : Kd.C Kd.string w A0 l0.length l0) (hc0 : l0.length ≤ c0) (hr1 : Kd.C Kd.string w A1 l1.length l1) (hc1 : l1.length ≤ c1) (h1 : sprlaw14_texts.f k l0 = some true) (h2 : sprlaw14_texts.f k l1 = some false) :
    Calls Tryd.prog 4 #[.slice A0 l0.length c0, .slice A1 l1.length c1] w fun e w' => e = .returned (.bool true) ∧ Below w.heap.size w w' := by
  have HR0 := Aside0.mk hr0
  have HC0 := Aside0.mk hc0
  have HR1 := Aside0.mk hr1
  have HC1 := Aside0.mk hc1
  have H1 := Aside0.mk h1
  have H2 := Aside0.mk h2
  have HB := Aside0.mk (Below.refl w.heap.size w)
  clear hr0 hc0 h1 hr1 hc1 h2
  have T0 := Aside0.mk trivial
  go_enter Tryd.func4, Tryd.ntmps4
  go_wp2_with (first | (go_at_call 8; (with_reducible refine (sprlaw14_first.own _).mono ?_); rintro e w1 ⟨rfl, hb⟩; have n0_ := Aside0.mk (HB.out.trans (hb.mono HB.out.size)); clear HB hb; have HB := n0_; clear n0_) | (clear T0; go_at_call 9; (with_reducible refine (sprlaw14_texts.calls k A0 c0 l0 true _ (Kd.C_below HR0.out HB.out) HC0.out H1.out).mono ?_); rintro e w2 ⟨rfl, hb⟩; have n0_ := Aside0.mk (HB.out.trans (hb.mono HB.out.size)); clear HB hb; have HB := n0_; clear n0_; have T1 := Aside0.mk trivial) | (clear T1; go_at_call 9; (with_reducible refine (sprlaw14_texts.calls k A1 c1 l1 false _ (Kd.C_below HR1.out HB.out) HC1.out H2.out).mono ?_); rintro e w2 ⟨rfl, hb⟩; have n0_ := Aside0.mk (HB.out.trans (hb.mono HB.out.size)); clear HB hb; have HB := n0_; clear n0_))
  go_ret
  exact ⟨rfl, HB.out⟩
def sprlaw14_CcStricter.main (k : Nat) (l0 l1 : List ByteArray) : Option Bool := (ccR k l0).bind fun a => (sprref_CopyTexts.f l0).bind fun cp => if cp.length + l1.length < 8796093022208 then (ccR k (cp ++ l1)).bind fun b => (if flagsB a b = true then some (numsB a b) else some false) else none
def sprlaw14_CcStricter.f (k : Nat) (l0 : List ByteArray) (l1 : List ByteArray) : Option (Bool) := (sprlaw14_texts.f k l0).bind fun t1 => (sprlaw14_texts.f k l1).bind fun t2 => if t1 = true then (if t2 = true then sprlaw14_CcStricter.main k l0 l1 else some true) else some true
theorem sprlaw14_CcStricter.mono : ∀ a0 a1 k, LeO (sprlaw14_CcStricter.f k a0 a1) (sprlaw14_CcStricter.f (k + 1) a0 a1) := by
  intro a0 a1 k
  unfold sprlaw14_CcStricter.f
  refine LeO.bind (sprlaw14_texts.mono _ k) fun t1 => LeO.bind (sprlaw14_texts.mono _ k) fun t2 => ?_
  by_cases e1 : t1 = true
  · rw [if_pos e1, if_pos e1]
    by_cases e2 : t2 = true
    · rw [if_pos e2, if_pos e2]
      unfold sprlaw14_CcStricter.main
      refine LeO.bind (ccR_mono k _) fun a => LeO.bind (LeO.refl _) fun cp => ?_
      by_cases e3 : cp.length + a1.length < 8796093022208
      · rw [if_pos e3, if_pos e3]; exact LeO.bind (ccR_mono k _) fun _ => LeO.refl _
      · rw [if_neg e3, if_neg e3]; exact LeO.refl _
    · rw [if_neg e2, if_neg e2]; exact LeO.refl _
  · rw [if_neg e1, if_neg e1]; exact LeO.refl _
theorem sprlaw14_CcStricter.calls (k : Nat) (A0 : Option Addr) (c0 : Nat) (l0 : List ByteArray) (A1 : Option Addr) (c1 : Nat) (l1 : List ByteArray) (r : Bool) (w : World) (hr0 : Kd.C Kd.string w A0 l0.length l0) (hc0 : l0.length ≤ c0) (hr1 : Kd.C Kd.string w A1 l1.length l1) (hc1 : l1.length ≤ c1) (h : sprlaw14_CcStricter.f k l0 l1 = some r) (hT : Aside0 (r = true)) :
    Calls Tryd.prog 4 #[.slice A0 l0.length c0, .slice A1 l1.length c1] w fun e w' => e = .returned (.bool r) ∧ Below w.heap.size w w' := by
  obtain rfl : r = true := hT.out
  unfold sprlaw14_CcStricter.f at h
  obtain ⟨t1, h1, h⟩ := Option.bind_eq_some_iff.1 h
  obtain ⟨t2, h2, h⟩ := Option.bind_eq_some_iff.1 h
  cases t1 with
  | false => exact stri_small1 k A0 c0 l0 _ w hr0 hc0 h1
  | true =>
    cases t2 with
    | false => exact stri_small2 k A0 c0 l0 A1 c1 l1 w hr0 hc0 hr1 hc1 h1 h2
    | true =>
      replace h : sprlaw14_CcStricter.main k l0 l1 = some true := h
      unfold sprlaw14_CcStricter.main at h
      obtain ⟨a, ha, h⟩ := Option.bind_eq_some_iff.1 h
      obtain ⟨cp, hcp, h⟩ := Option.bind_eq_some_iff.1 h
      by_cases e3 : cp.length + l1.length < 8796093022208
      · rw [if_pos e3] at h
        obtain ⟨b, hb, h⟩ := Option.bind_eq_some_iff.1 h
        by_cases e4 : flagsB a b = true
        · rw [if_pos e4] at h
          exact stri_own k A0 c0 l0 A1 c1 l1 cp _ rfl a b w hr0 hc0 hr1 hc1 h1 h2 ha hcp e3 hb e4 (Option.some.inj h)
        · rw [if_neg e4] at h; cases h
      · rw [if_neg e3] at h; cases h


end Go.Proofs.YtifchklfomddhaaDoor.X
