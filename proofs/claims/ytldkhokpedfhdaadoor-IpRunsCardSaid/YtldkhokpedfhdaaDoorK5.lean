-- Written by a program of this session's (wip/xprint.py), out of the seat's translation.
import Derived.Test.YtldkhokpedfhdaaDoorK0
import Derived.Test.YtldkhokpedfhdaaDoorK1
import Derived.Test.YtldkhokpedfhdaaDoorK3
import Derived.Test.YtldkhokpedfhdaaDoorK4
namespace Go.Proofs.YtldkhokpedfhdaaDoor.K
open Go.RowKit Go.Proofs.YtldkhokpedfhdaaDoorW.PrintWords Go.Proofs.YtldkhokpedfhdaaDoorW.PrintLast Go.Proofs.YtldkhokpedfhdaaDoorW.PrintMore
attribute [local go_sem] max2_int min2_int max_two min_two max_three min_three max_four min_four   -- for this text's walks alone
set_option linter.unusedVariables false
set_option linter.unusedSimpArgs false

/-! ### sprlaw7_IpKeys: function 3 -/
theorem ipm_chk {P : Program} {t e : TypeId} {n : Nat} (hu : P.underlying t = some (.array n e)) (he : P.underlying e = some (.int .u16)) (hz : ∀ w, (sizeOf e).run P w = .ok 1 w) (ha : ∀ w, (isAgg e).run P w = .ok false w) (em : Bool) (d : Nat) (p : List Int) (hp : p.length = n) (w : World) :
    (Instr.checkKey em (d + 2) t (.agg (arrV p))).run P w = .ok () w := by
  rw [Instr.checkKey]
  simp only [Sem.run_bind, run_underlying hu, Result.andThen_ok, hz, Nat.mul_one]
  simp only [Std.Legacy.Range.forIn_eq_forIn_range', Std.Legacy.Range.size]
  rw [show (n - 0 + 1 - 1) / 1 = n by omega]
  have key : ∀ (m i : Nat), i + m = n → Sem.run P (forIn (List.range' i m) PUnit.unit fun i __s => do
            let __do_sz ← sizeOf e
            let __do_lift ← part e (arrV p) (i * __do_sz)
            Instr.checkKey em (d + 1) e __do_lift
            pure (ForInStep.yield PUnit.unit)) w
      = .ok PUnit.unit w := by
    intro m
    induction m with
    | zero => intro i hi; rfl
    | succ m ih =>
      intro i hi
      have h1 : i < p.length := by omega
      rw [List.range'_succ, List.forIn_cons]
      have hc : (Instr.checkKey em (d + 1) e (.int .u16 p[i])).run P w = .ok () w := by
        rw [Instr.checkKey]
        simp only [Sem.run_bind, run_underlying he, Result.andThen_ok, Sem.run_pure]
      simp only [Sem.run_bind, hz, Nat.mul_one, arr_part ha (arrV p) i _ (arr_at p i _ (List.getElem?_eq_getElem h1)), Result.andThen_ok, hc, Sem.run_pure]
      exact ih (i + 1) (by omega)
  have := key n 0 (by omega)
  rw [this]
  rfl
theorem ipm_get {P : Program} {w : World} {r : Nat} {es : Array MapEntry} {clock : Nat} (hb : w.heap[r]? = some (.map es clock)) : (getObj r).run P w = .ok (.map es clock) w := by
  simp [getObj, Sem.run, hb]
theorem ipm_set {P : Program} {w : World} {r : Nat} {es : Array MapEntry} {clock : Nat} (o : Obj) (hb : w.heap[r]? = some (.map es clock)) : (setObj r o).run P w = .ok () { w with heap := w.heap.setIfInBounds r o } := by
  simp [setObj, Sem.run, hb]
/-- The first entry of a map keyed by an array. -/
theorem ipm_ins {P : Program} {mt t e et : TypeId} {n : Nat} (hm : P.underlying mt = some (.map t et)) (hu : P.underlying t = some (.array n e)) (he : P.underlying e = some (.int .u16)) (hz : ∀ w, (sizeOf e).run P w = .ok 1 w) (ha : ∀ w, (isAgg e).run P w = .ok false w) (p : List Int) (hp : p.length = n) (b c : Nat) (v : Value) (w : World) (hb : w.heap[b]? = some (.map #[] c)) :
    (Instr.mapUpdate mt (.map (some b)) (.agg (arrV p)) v).run P w = .ok () { w with heap := w.heap.setIfInBounds b (.map #[{ key := .agg (arrV p), val := v, born := c }] (c + 1)) } := by
  unfold Instr.mapUpdate Instr.findKey
  simp only [Sem.run_bind, run_underlying hm, run_underlying hu, Result.andThen_ok, ipm_get hb, ipm_chk hu he hz ha false 9998 p hp w, Instr.findNow, Sem.run_pure, ipm_set _ hb]
  rfl
theorem ipm_look {P : Program} {mt t e et : TypeId} {n : Nat} (hm : P.underlying mt = some (.map t et)) (hu : P.underlying t = some (.array n e)) (he : P.underlying e = some (.int .u16)) (hz : ∀ w, (sizeOf e).run P w = .ok 1 w) (ha : ∀ w, (isAgg e).run P w = .ok false w) (p q : List Int) (hp : p.length = n) (hq : q.length = n) (b c c' : Nat) (v z : Value) (w : World) (hzv : (zeroValue et).run P w = .ok z w)
    (hb : w.heap[b]? = some (.map #[{ key := .agg (arrV p), val := v, born := c }] c')) :
    (Instr.lookup mt (.map (some b)) (.agg (arrV q)) true).run P w = .ok (.tuple #[if q = p then v else z, .bool (decide (q = p))]) w := by
  have hf : ∀ kd, Instr.findNow kd (.agg (arrV q)) [{ key := .agg (arrV p), val := v, born := c }] 0 = none := fun kd => by cases kd <;> rfl
  have hq' : (Op.equal t (.agg (arrV q)) (.agg (arrV p))).run P w = .ok (decide (q = p)) w := arr_eq hu he hz ha 9998 q p hq hp w
  unfold Instr.lookup Instr.findKey
  simp only [Sem.run_bind, run_underlying hm, run_underlying hu, Result.andThen_ok, ipm_get hb, ipm_chk hu he hz ha _ 9998 q hq w, hf, Instr.findAsking, hq', Sem.run_pure]
  by_cases h : q = p
  · simp [h, Sem.run_pure, Sem.run_bind, Result.andThen_ok]
  · simp [h, Sem.run_pure, Sem.run_bind, Result.andThen_ok, hzv]
theorem ipm_at {w : World} {b : Nat} {o o' : Obj} (hb : w.heap[b]? = some o) : ({ w with heap := w.heap.setIfInBounds b o' } : World).heap[b]? = some o' := by
  have := blk_lt hb
  show (w.heap.setIfInBounds b o')[b]? = _
  simp [this]
theorem ipm_other {w : World} {b g : Nat} {o o' : Obj} (hb : w.heap[g]? = some o) (h : b ≠ g) : ({ w with heap := w.heap.setIfInBounds b o' } : World).heap[g]? = some o := by
  show (w.heap.setIfInBounds b o')[g]? = _
  rw [Array.getElem?_setIfInBounds_ne h]; exact hb
theorem ipm_below {W w : World} {b : Nat} {o' : Obj} (h : Below W.heap.size W w) (hb : W.heap.size ≤ b) : Below W.heap.size W { w with heap := w.heap.setIfInBounds b o' } :=
  h.trans ⟨rfl, rfl, rfl, by show w.heap.size ≤ (w.heap.setIfInBounds b o').size; simp, fun k hk => by show (w.heap.setIfInBounds b o')[k]? = _; rw [Array.getElem?_setIfInBounds_ne (by omega)]⟩
theorem ipm_load {P : Program} {ops : Array Oper} {op : Oper} {a : Act} {S : World → Prop} (hw : Region.wanted op (yielded ops a.tmps) = true) (ty : TypeId) (x : Operand) (ho : op.op = .load ty x)
    (b : Nat) (hx : a.eval x = .pointer (some ⟨b, 0, none⟩)) (cs : Array Value) (t : TypeId) (fr : Nat × Nat) (d : TypeDesc) (hu : P.underlying ty = some d) (hd : (match d with | .struct _ | .array _ _ => true | _ => false) = true) (hi : (P.info? ty).map (·.size) = some cs.size)
    (hS : ∀ w, S w → w.heap[b]? = some (.cells cs t fr)) : YieldsIf P ops S op (.agg cs) a :=
  .inl ⟨hw, fun w hw' => by
    unfold execOp
    simp only [ho, hx, Instr.loadAt, Instr.sureAddr, Sem.run_bind, Sem.run_pure, Result.andThen_ok, run_loadVar_row w b t ty cs fr d (hS w hw') hu hd hi]⟩
theorem ipm_wp_look {P : Program} {ops : Array Oper} {rest : List Oper} {o : Oper} {a : Act} {w : World} {Q : Exit → Act → World → Prop} (hgd : o.guard = none) (ty : TypeId) (m x : Operand) (ho : o.op = .lookup ty m x true) (vm vx v : Value) (hm : a.eval m = vm) (hx : a.eval x = vx)
    (hrun : (Instr.lookup ty vm vx true).run P w = .ok v w) (h : wpList P ops Q rest (a.put o.dst v) w) : wpList P ops Q (o :: rest) a w :=
  wpList_plain hgd fun _ hK => by
    unfold Oper.wp execOp
    simp only [ho, hm, hx, hrun, Sem.run_bind, Sem.run_pure, Result.andThen_ok]
    exact hK _ _ h
theorem ipm_skip {P : Program} {o : Oper} {a : Act} {w w1 : World} (ty : TypeId) (m x y : Operand) (ho : o.op = .insert ty m x y) (vm vx vy : Value) (hm : a.eval m = vm) (hx : a.eval x = vx) (hy : a.eval y = vy)
    (hrun : (Instr.mapUpdate ty vm vx vy).run P w = .ok () w1) : (execOp a.eval o).run P w = .ok .skip w1 := by
  unfold execOp
  simp only [ho, hm, hx, hy, hrun, Sem.run_bind, Sem.run_pure, Result.andThen_ok]
theorem ipm_make {P : Program} {o : Oper} {a : Act} {w : World} (ty : TypeId) (ho : o.op = .makeMap ty none) : (execOp a.eval o).run P w = .ok (.value (.map (some w.heap.size))) (w.alloc (.map #[] 0)) := by
  unfold execOp
  simp only [ho, Option.map_none, Sem.run_bind, Sem.run_pure]
  rfl
theorem ipm_eq {P : Program} {t e : TypeId} {n : Nat} {o : Oper} {a : Act} (ty2 : TypeId) (x y : Operand) (ho : o.op = .binOp .eql t x y ty2) (p q : List Int) (hx : a.eval x = .agg (arrV p)) (hy : a.eval y = .agg (arrV q)) (c : Bool) (hc : decide (p = q) = c) (hg : ∀ w, (eqGuard .eql t x y (.agg (arrV p)) (.agg (arrV q))).run P w = .ok () w)
    (hu : P.underlying t = some (.array n e)) (he : P.underlying e = some (.int .u16)) (hz : ∀ w, (sizeOf e).run P w = .ok 1 w) (ha : ∀ w, (isAgg e).run P w = .ok false w) (hp : p.length = n) (hq : q.length = n) (w : World) : (execOp a.eval o).run P w = .ok (.value (.bool c)) w := by
  have h : (Op.equal t (.agg (arrV p)) (.agg (arrV q))).run P w = .ok (decide (p = q)) w := arr_eq hu he hz ha 9998 p q hp hq w
  subst hc
  unfold execOp
  simp only [ho, hx, hy, Sem.run_bind, hg, Result.andThen_ok, Sem.run_pure, binOp, h]
set_option maxHeartbeats 4000000 in
set_option maxRecDepth 100000 in
theorem sprlaw7_IpKeys.same (k : Nat) (p : List Int) (tp : ByteArray) (w : World) (hT : Own.ipW w) (hp8 : p.length = 8) (hp6 : ip_Print6.g k p = some tp) :
    Calls Tryd.prog 3 #[.agg (arrV p), .agg (arrV p)] w fun e w' => e = .returned (.bool true) ∧ Below w.heap.size w w' := by
  have HT := Aside0.mk hT
  have hu := Tryd.underlying23
  have hi0 : (Tryd.prog.info? 23).map (·.size) = some (arrV zero8).size := by kernel_rfl
  have T0 := Aside0.mk trivial
  obtain ⟨w0, hw0⟩ : ∃ w0, w0 = (w.alloc (.cells (arrV p) 23)).alloc (.cells (arrV p) 23) := ⟨_, rfl⟩
  have HB0 : Aside0 (Below w.heap.size w w0) := ⟨by rw [hw0]; exact below_alloc (below_alloc (Below.refl _ _) _) _⟩
  have HRp_0 : Aside0 (w0.heap[w.heap.size]? = some (.cells (arrV p) 23 (0, 0))) := ⟨by rw [hw0]; exact blk_alloc (blk_new _ _) _⟩
  have HRq_0 : Aside0 (w0.heap[(w.heap.size + 1)]? = some (.cells (arrV p) 23 (0, 0))) := ⟨by rw [hw0]; have h_ := blk_new (w.alloc (.cells (arrV p) 23)) (.cells (arrV p) 23); rwa [show (w.alloc (.cells (arrV p) 23)).heap.size = w.heap.size + 1 from Array.size_push _] at h_⟩
  have hip : Aside0 ((Tryd.prog.info? 23).map (·.size) = some (arrV p).size) := ⟨by rw [arr_size, hp8]; kernel_rfl⟩
  have hc : Aside0 (decide (p = p) = true) := ⟨decide_eq_true rfl⟩
  have HP8 := Aside0.mk hp8
  clear hp8
  go_enter Tryd.func3, Tryd.ntmps3
  go_wp2_with (first | (clear T0; go_at_call 9; rw [← hw0]; clear hw0; (with_reducible refine (sprlaw7_first.calls 0 true _ rfl (Own.ipW_below HT.out HB0.out)).mono ?_); rintro e w1 ⟨rfl, hb⟩; have HB1 := Aside0.mk (HB0.out.trans (hb.mono HB0.out.size)); have HRp_1 := Aside0.mk (blk_below HRp_0.out hb); have HRq_1 := Aside0.mk (blk_below HRq_0.out hb); clear hb HB0 HRp_0 HRq_0; have T1 := Aside0.mk trivial))
  have n_HB1 := Aside0.mk (below_drew1 HB1.out); have n_HRp_1 := Aside0.mk (blk_drew HRp_1.out); have n_HRq_1 := Aside0.mk (blk_drew HRq_1.out); clear HB1 HRp_1 HRq_1; have HB1 := n_HB1; have HRp_1 := n_HRp_1; have HRq_1 := n_HRq_1; clear n_HB1 n_HRp_1 n_HRq_1
  refine start_ (n := 7) (S := fun w' => w'.heap[w.heap.size]? = some (.cells (arrV p) 23 (0, 0)) ∧ w'.heap[(w.heap.size + 1)]? = some (.cells (arrV p) 23 (0, 0))) (ds := []) #[false, false, false, false, false, false, false] (by kernel_rfl) rfl rfl ⟨HRp_1.out, HRq_1.out⟩ (fun hHeld => ?_)
  generalize World.drew _ = wd3 at HB1 HRp_1 HRq_1 hHeld ⊢
  refine take_ (i := 1) (N := some 11) (v := (.agg (arrV p))) #[false, true, false, false, false, false, false] rfl rfl (by kernel_rfl) (fun _ _ _ h => h) (ipm_load (by rfl) 23 (.tmp 2) rfl w.heap.size rfl (arrV p) 23 (0, 0) _ hu rfl hip.out (fun w' h' => h'.1)) hHeld rfl ?_
  simp only [Act.put, List.setIfInBounds_toArray, List.set_cons_zero, List.set_cons_succ]
  refine take_ (i := 2) (N := some 12) (v := (.agg (arrV p))) #[false, true, true, false, false, false, false] rfl rfl (by kernel_rfl) (fun _ _ _ h => h) (ipm_load (by rfl) 23 (.tmp 2) rfl w.heap.size rfl (arrV p) 23 (0, 0) _ hu rfl hip.out (fun w' h' => h'.1)) hHeld rfl ?_
  simp only [Act.put, List.setIfInBounds_toArray, List.set_cons_zero, List.set_cons_succ]
  refine join_ (σ := Nat) 3 #[true, true, true, true, false, false, false] (fun b => [(10, .map (some b)), (13, .string tp)]) (fun b w' => Below w.heap.size w w' ∧ w'.heap[w.heap.size]? = some (.cells (arrV p) 23 (0, 0)) ∧ w'.heap[(w.heap.size + 1)]? = some (.cells (arrV p) 23 (0, 0)) ∧ w'.heap[b]? = some (.map #[] 0) ∧ w.heap.size + 1 < b) ?_ ?_
  rotate_left
  · intro hCont
    clear hHeld
    refine two_ (i := 0) (j := 3) (Ni := some 10) (Nj := some 13) #[true, true, true, false, false, false, false] #[false, true, true, true, false, false, false] rfl rfl rfl rfl (by kernel_rfl) (by decide) (by decide) (fun K hK => ?_) (fun K hK => ?_)
    · skip
      refine value_ (w1 := wd3.alloc (.map #[] 0)) (v := .map (some wd3.heap.size)) (by rfl) rfl (ipm_make 26 rfl) ?_
      have hmb : Aside0 (w.heap.size + 1 < wd3.heap.size) := ⟨blk_lt HRq_1.out⟩
      obtain ⟨mb, hm⟩ : ∃ x, x = wd3.heap.size := ⟨_, rfl⟩; rw [← hm] at hmb ⊢
      obtain ⟨wm, hwm⟩ : ∃ x, x = wd3.alloc (.map #[] 0) := ⟨_, rfl⟩; rw [← hwm]
      have HM : Aside0 (wm.heap[mb]? = some (.map #[] 0)) := ⟨by rw [hwm, hm]; exact blk_new _ _⟩
      have hb : Below wd3.heap.size wd3 wm := by rw [hwm]; exact below_alloc (Below.refl _ _) _
      clear hwm hm
      have n_HB1 := Aside0.mk (below_step HB1.out hb); have n_HRp_1 := Aside0.mk (blk_below HRp_1.out hb); have n_HRq_1 := Aside0.mk (blk_below HRq_1.out hb); clear HB1 HRp_1 HRq_1; have HB1 := n_HB1; have HRp_1 := n_HRp_1; have HRq_1 := n_HRq_1; clear n_HB1 n_HRp_1 n_HRq_1
      clear hb
      refine hK.out _ _ ⟨HRp_1.out, HRq_1.out⟩ (fun hHeld => ?_)
      clear hK K hHeld
      simp only [Act.put, List.setIfInBounds_toArray, List.set_cons_zero, List.set_cons_succ]
      refine one_ (i := 3) (N := some 13) #[true, true, true, true, false, false, false] rfl rfl (by kernel_rfl) (by decide) (fun K hK => ?_)
      refine goes_ Tryd.func10 (by kernel_rfl) rfl #[.agg (arrV p)] (by rfl) rfl rfl (by first | rfl | (simp only [List.map_toArray, List.map_cons, List.map_nil]; rfl)) ?_
      with_reducible refine (ip_Print6.gcalls k p tp _ hp6 (Own.ipW_below HT.out HB1.out)).mono ?_
      rintro e w3 ⟨rfl, hb⟩
      refine ⟨_, rfl, ?_⟩
      have n_HB1 := Aside0.mk (below_step HB1.out hb); have n_HRp_1 := Aside0.mk (blk_below HRp_1.out hb); have n_HRq_1 := Aside0.mk (blk_below HRq_1.out hb); have n_HM := Aside0.mk (blk_below HM.out hb); clear HM; have HM := n_HM; clear n_HM; clear HB1 HRp_1 HRq_1; have HB1 := n_HB1; have HRp_1 := n_HRp_1; have HRq_1 := n_HRq_1; clear n_HB1 n_HRp_1 n_HRq_1
      clear hb
      refine hK.out _ _ ⟨HRp_1.out, HRq_1.out⟩ (fun hHeld => ?_)
      clear hK K hHeld
      exact hCont mb _ ⟨HB1.out, HRp_1.out, HRq_1.out, HM.out, hmb.out⟩
    · skip
      refine goes_ Tryd.func10 (by kernel_rfl) rfl #[.agg (arrV p)] (by rfl) rfl rfl (by first | rfl | (simp only [List.map_toArray, List.map_cons, List.map_nil]; rfl)) ?_
      with_reducible refine (ip_Print6.gcalls k p tp _ hp6 (Own.ipW_below HT.out HB1.out)).mono ?_
      rintro e w3 ⟨rfl, hb⟩
      refine ⟨_, rfl, ?_⟩
      have n_HB1 := Aside0.mk (below_step HB1.out hb); have n_HRp_1 := Aside0.mk (blk_below HRp_1.out hb); have n_HRq_1 := Aside0.mk (blk_below HRq_1.out hb); clear HB1 HRp_1 HRq_1; have HB1 := n_HB1; have HRp_1 := n_HRp_1; have HRq_1 := n_HRq_1; clear n_HB1 n_HRp_1 n_HRq_1
      clear hb
      refine hK.out _ _ ⟨HRp_1.out, HRq_1.out⟩ (fun hHeld => ?_)
      clear hK K hHeld
      simp only [Act.put, List.setIfInBounds_toArray, List.set_cons_zero, List.set_cons_succ]
      refine one_ (i := 0) (N := some 10) #[true, true, true, true, false, false, false] rfl rfl (by kernel_rfl) (by decide) (fun K hK => ?_)
      refine value_ (w1 := w3.alloc (.map #[] 0)) (v := .map (some w3.heap.size)) (by rfl) rfl (ipm_make 26 rfl) ?_
      have hmb : Aside0 (w.heap.size + 1 < w3.heap.size) := ⟨blk_lt HRq_1.out⟩
      obtain ⟨mb, hm⟩ : ∃ x, x = w3.heap.size := ⟨_, rfl⟩; rw [← hm] at hmb ⊢
      obtain ⟨wm, hwm⟩ : ∃ x, x = w3.alloc (.map #[] 0) := ⟨_, rfl⟩; rw [← hwm]
      have HM : Aside0 (wm.heap[mb]? = some (.map #[] 0)) := ⟨by rw [hwm, hm]; exact blk_new _ _⟩
      have hb : Below w3.heap.size w3 wm := by rw [hwm]; exact below_alloc (Below.refl _ _) _
      clear hwm hm
      have n_HB1 := Aside0.mk (below_step HB1.out hb); have n_HRp_1 := Aside0.mk (blk_below HRp_1.out hb); have n_HRq_1 := Aside0.mk (blk_below HRq_1.out hb); clear HB1 HRp_1 HRq_1; have HB1 := n_HB1; have HRp_1 := n_HRp_1; have HRq_1 := n_HRq_1; clear n_HB1 n_HRp_1 n_HRq_1
      clear hb
      refine hK.out _ _ ⟨HRp_1.out, HRq_1.out⟩ (fun hHeld => ?_)
      clear hK K hHeld
      exact hCont mb _ ⟨HB1.out, HRp_1.out, HRq_1.out, HM.out, hmb.out⟩
  clear HB1 HRp_1 HRq_1 hHeld
  rintro mb w3 ⟨hB_, hP_, hQ_, hM_, hmb_⟩
  have HB1 := Aside0.mk hB_; have HRp_1 := Aside0.mk hP_; have HRq_1 := Aside0.mk hQ_; have HM := Aside0.mk hM_; have hmb := Aside0.mk hmb_; clear hB_ hP_ hQ_ hM_ hmb_
  simp only [putAll, Act.put, List.setIfInBounds_toArray, List.set_cons_zero, List.set_cons_succ]
  refine one_ (i := 4) (N := none) #[true, true, true, true, true, false, false] rfl rfl (by kernel_rfl) (by decide) (fun K hK => ?_)
  refine skip_ (by rfl) rfl (ipm_skip 26 (.tmp 10) (.tmp 11) (.tmp 13) rfl _ _ _ rfl rfl rfl (ipm_ins (P := Tryd.prog) (mt := 26) (t := 23) (e := 22) (et := 9) (n := 8) Tryd.underlying26 hu Tryd.underlying22 (fun _ => by kernel_rfl) (fun _ => by kernel_rfl) p HP8.out mb 0 (.string tp) w3 HM.out)) ?_
  obtain ⟨w4, hw4⟩ : ∃ x : World, x = { w3 with heap := w3.heap.setIfInBounds mb (.map #[{ key := .agg (arrV p), val := .string tp, born := 0 }] (0 + 1)) } := ⟨_, rfl⟩; rw [← hw4]
  have n_B := Aside0.mk (hw4 ▸ ipm_below HB1.out (by have := hmb.out; omega) : Below w.heap.size w w4); have n_P := Aside0.mk (hw4 ▸ ipm_other HRp_1.out (by have := hmb.out; omega) : w4.heap[w.heap.size]? = some (.cells (arrV p) 23 (0, 0))); have n_Q := Aside0.mk (hw4 ▸ ipm_other HRq_1.out (by have := hmb.out; omega) : w4.heap[(w.heap.size + 1)]? = some (.cells (arrV p) 23 (0, 0))); have n_M := Aside0.mk (hw4 ▸ ipm_at HM.out : w4.heap[mb]? = some (.map #[{ key := .agg (arrV p), val := .string tp, born := 0 }] (0 + 1)))
  clear HB1 HRp_1 HRq_1 HM hw4; have HB1 := n_B; have HRp_1 := n_P; have HRq_1 := n_Q; have HM := n_M; clear n_B n_P n_Q n_M
  refine hK.out _ _ ⟨HRp_1.out, HRq_1.out⟩ (fun hHeld => ?_)
  clear hK K
  try simp only [Act.put, List.setIfInBounds_toArray, List.set_cons_zero, List.set_cons_succ]
  refine pure_ (i := 5) (N := some 14) (v := ?_) (a' := ?_) #[true, true, true, true, true, true, false] rfl rfl (by kernel_rfl) (fun _ _ _ h => h) (Or.inl ⟨by rfl, ?_⟩) ?_ ?_
  rotate_left
  · intro w'
    go_simp
    with_reducible rfl
  rotate_left
  · simp only [Act.put, List.setIfInBounds_toArray, List.set_cons_zero, List.set_cons_succ, i64_w, i32_w]
    rfl
  refine pure_ (i := 6) (N := some 5) (v := ?_) (a' := ?_) #[true, true, true, true, true, true, true] rfl rfl (by kernel_rfl) (fun _ _ _ h => h) (Or.inl ⟨by rfl, ?_⟩) ?_ ?_
  rotate_left
  · intro w'
    go_simp
    with_reducible rfl
  rotate_left
  · simp only [Act.put, List.setIfInBounds_toArray, List.set_cons_zero, List.set_cons_succ, i64_w, i32_w]
    rfl
  refine done_ (by kernel_rfl) ?_
  clear hHeld
  have hlk : ∀ z, (zeroValue 9).run Tryd.prog w4 = .ok z w4 → (Instr.lookup 26 (.map (some mb)) (.agg (arrV p)) true).run Tryd.prog w4 = .ok (.tuple #[if p = p then .string tp else z, .bool (decide (p = p))]) w4 := fun z hz => ipm_look (P := Tryd.prog) (mt := 26) (t := 23) (e := 22) (et := 9) (n := 8) Tryd.underlying26 hu Tryd.underlying22 (fun _ => by kernel_rfl) (fun _ => by kernel_rfl) p p HP8.out HP8.out mb 0 _ (.string tp) z w4 hz HM.out
  have HL : Aside0 ((Instr.lookup 26 (.map (some mb)) (.agg (arrV p)) true).run Tryd.prog w4 = .ok (.tuple #[.string tp, .bool true]) w4) := ⟨by have h_ := hlk (.string ByteArray.empty) (by first | rfl | kernel_rfl); rw [if_pos rfl, decide_eq_true rfl] at h_; exact h_⟩
  clear hlk
  have T9 := Aside0.mk trivial
  go_wp2_with (first | ((with_reducible refine gate_dst (N := 17) rfl ?_); refine gate_guard (by rfl) ?_; refine wpList_load_row rfl 23 (.tmp 3) rfl (w.heap.size + 1) rfl 23 (arrV p) (0, 0) _ HRq_1.out hu rfl hip.out ?_) | ((with_reducible refine gate_dst (N := 18) rfl ?_); refine gate_guard (by rfl) ?_; refine ipm_wp_look rfl 26 (.tmp 16) (.tmp 17) rfl _ _ _ rfl rfl HL.out ?_))
  clear HL HM T9
  have n_HB1 := Aside0.mk (below_drew1 HB1.out); have n_HRp_1 := Aside0.mk (blk_drew HRp_1.out); have n_HRq_1 := Aside0.mk (blk_drew HRq_1.out); clear HB1 HRp_1 HRq_1; have HB1 := n_HB1; have HRp_1 := n_HRp_1; have HRq_1 := n_HRq_1; clear n_HB1 n_HRp_1 n_HRq_1
  refine start_ (n := 30) (S := fun w' => w'.heap[w.heap.size]? = some (.cells (arrV p) 23 (0, 0)) ∧ w'.heap[(w.heap.size + 1)]? = some (.cells (arrV p) 23 (0, 0))) (ds := []) #[false, false, false, false, false, false, false, false, false, false, false, false, false, false, false, false, false, false, false, false, false, false, false, false, false, false, false, false, false, false] (by kernel_rfl) rfl rfl ⟨HRp_1.out, HRq_1.out⟩ (fun hHeld => ?_)
  generalize World.drew _ = wd5 at HB1 HRp_1 HRq_1 hHeld ⊢
  refine one_ (i := 0) (N := some 21) #[true, false, false, false, false, false, false, false, false, false, false, false, false, false, false, false, false, false, false, false, false, false, false, false, false, false, false, false, false, false] rfl rfl (by kernel_rfl) (by decide) (fun K hK => ?_)
  refine goes_ Tryd.func9 (by kernel_rfl) rfl #[] (by rfl) rfl rfl (by simp) ?_
  with_reducible refine (sprlaw7_first.calls 0 true _ rfl (Own.ipW_below HT.out HB1.out)).mono ?_
  rintro e w5 ⟨rfl, hb⟩
  refine ⟨_, rfl, ?_⟩
  have n_HB1 := Aside0.mk (below_step HB1.out hb); have n_HRp_1 := Aside0.mk (blk_below HRp_1.out hb); have n_HRq_1 := Aside0.mk (blk_below HRq_1.out hb); clear HB1 HRp_1 HRq_1; have HB1 := n_HB1; have HRp_1 := n_HRp_1; have HRq_1 := n_HRq_1; clear n_HB1 n_HRp_1 n_HRq_1
  clear hb hHeld
  refine hK.out _ _ ⟨HRp_1.out, HRq_1.out⟩ (fun hHeld => ?_)
  clear hK K
  simp only [Act.put, List.setIfInBounds_toArray, List.set_cons_zero, List.set_cons_succ]
  refine pure_ (i := 1) (N := some 22) (v := ?_) (a' := ?_) #[true, true, false, false, false, false, false, false, false, false, false, false, false, false, false, false, false, false, false, false, false, false, false, false, false, false, false, false, false, false] rfl rfl (by kernel_rfl) (fun _ _ _ h => h) (Or.inl ⟨by rfl, ?_⟩) ?_ ?_
  rotate_left
  · intro w'
    go_simp
    with_reducible rfl
  rotate_left
  · simp only [Act.put, List.setIfInBounds_toArray, List.set_cons_zero, List.set_cons_succ, i64_w, i32_w]
    rfl
  refine take_ (i := 2) (N := some 23) (v := (.agg (arrV p))) #[true, true, true, false, false, false, false, false, false, false, false, false, false, false, false, false, false, false, false, false, false, false, false, false, false, false, false, false, false, false] rfl rfl (by kernel_rfl) (fun _ _ _ h => h) (ipm_load (by rfl) 23 (.tmp 2) rfl w.heap.size rfl (arrV p) 23 (0, 0) _ hu rfl hip.out (fun w' h' => h'.1)) hHeld rfl ?_
  simp only [Act.put, List.setIfInBounds_toArray, List.set_cons_zero, List.set_cons_succ]
  refine take_ (i := 4) (N := some 25) (v := (.agg (arrV p))) #[true, true, true, false, true, false, false, false, false, false, false, false, false, false, false, false, false, false, false, false, false, false, false, false, false, false, false, false, false, false] rfl rfl (by kernel_rfl) (fun _ _ _ h => h) (ipm_load (by rfl) 23 (.tmp 3) rfl (w.heap.size + 1) rfl (arrV p) 23 (0, 0) _ hu rfl hip.out (fun w' h' => h'.2)) hHeld rfl ?_
  simp only [Act.put, List.setIfInBounds_toArray, List.set_cons_zero, List.set_cons_succ]
  refine take_ (i := 7) (N := some 28) (v := (.agg (arrV p))) #[true, true, true, false, true, false, false, true, false, false, false, false, false, false, false, false, false, false, false, false, false, false, false, false, false, false, false, false, false, false] rfl rfl (by kernel_rfl) (fun _ _ _ h => h) (ipm_load (by rfl) 23 (.tmp 2) rfl w.heap.size rfl (arrV p) 23 (0, 0) _ hu rfl hip.out (fun w' h' => h'.1)) hHeld rfl ?_
  simp only [Act.put, List.setIfInBounds_toArray, List.set_cons_zero, List.set_cons_succ]
  refine take_ (i := 8) (N := some 29) (v := (.agg (arrV p))) #[true, true, true, false, true, false, false, true, true, false, false, false, false, false, false, false, false, false, false, false, false, false, false, false, false, false, false, false, false, false] rfl rfl (by kernel_rfl) (fun _ _ _ h => h) (ipm_load (by rfl) 23 (.tmp 3) rfl (w.heap.size + 1) rfl (arrV p) 23 (0, 0) _ hu rfl hip.out (fun w' h' => h'.2)) hHeld rfl ?_
  simp only [Act.put, List.setIfInBounds_toArray, List.set_cons_zero, List.set_cons_succ]
  refine pure_ (i := 9) (N := some 30) (v := .bool true) (a' := ?_) #[true, true, true, false, true, false, false, true, true, true, false, false, false, false, false, false, false, false, false, false, false, false, false, false, false, false, false, false, false, false] rfl rfl (by kernel_rfl) (fun _ _ _ h => h) (Or.inl ⟨by rfl, ?_⟩) ?_ ?_
  · intro w'
    exact ipm_eq 23 (.tmp 28) (.tmp 29) rfl p p rfl rfl true (decide_eq_true rfl) (fun _ => by first | rfl | kernel_rfl | go_simp) hu Tryd.underlying22 (fun _ => by kernel_rfl) (fun _ => by kernel_rfl) HP8.out HP8.out w'
  rotate_left
  · simp only [Act.put, List.setIfInBounds_toArray, List.set_cons_zero, List.set_cons_succ, i64_w, i32_w]
    rfl
  refine one_ (i := 3) (N := some 24) #[true, true, true, true, true, false, false, true, true, true, false, false, false, false, false, false, false, false, false, false, false, false, false, false, false, false, false, false, false, false] rfl rfl (by kernel_rfl) (by decide) (fun K hK => ?_)
  refine goes_ Tryd.func10 (by kernel_rfl) rfl #[.agg (arrV p)] (by rfl) rfl rfl (by first | rfl | (simp only [List.map_toArray, List.map_cons, List.map_nil]; rfl)) ?_
  with_reducible refine (ip_Print6.gcalls k p tp _ hp6 (Own.ipW_below HT.out HB1.out)).mono ?_
  rintro e w6 ⟨rfl, hb⟩
  refine ⟨_, rfl, ?_⟩
  have n_HB1 := Aside0.mk (below_step HB1.out hb); have n_HRp_1 := Aside0.mk (blk_below HRp_1.out hb); have n_HRq_1 := Aside0.mk (blk_below HRq_1.out hb); clear HB1 HRp_1 HRq_1; have HB1 := n_HB1; have HRp_1 := n_HRp_1; have HRq_1 := n_HRq_1; clear n_HB1 n_HRp_1 n_HRq_1
  clear hb hHeld
  refine hK.out _ _ ⟨HRp_1.out, HRq_1.out⟩ (fun hHeld => ?_)
  clear hK K
  simp only [Act.put, List.setIfInBounds_toArray, List.set_cons_zero, List.set_cons_succ]
  refine one_ (i := 5) (N := some 26) #[true, true, true, true, true, true, false, true, true, true, false, false, false, false, false, false, false, false, false, false, false, false, false, false, false, false, false, false, false, false] rfl rfl (by kernel_rfl) (by decide) (fun K hK => ?_)
  refine goes_ Tryd.func10 (by kernel_rfl) rfl #[.agg (arrV p)] (by rfl) rfl rfl (by first | rfl | (simp only [List.map_toArray, List.map_cons, List.map_nil]; rfl)) ?_
  with_reducible refine (ip_Print6.gcalls k p tp _ hp6 (Own.ipW_below HT.out HB1.out)).mono ?_
  rintro e w7 ⟨rfl, hb⟩
  refine ⟨_, rfl, ?_⟩
  have n_HB1 := Aside0.mk (below_step HB1.out hb); have n_HRp_1 := Aside0.mk (blk_below HRp_1.out hb); have n_HRq_1 := Aside0.mk (blk_below HRq_1.out hb); clear HB1 HRp_1 HRq_1; have HB1 := n_HB1; have HRp_1 := n_HRp_1; have HRq_1 := n_HRq_1; clear n_HB1 n_HRp_1 n_HRq_1
  clear hb hHeld
  refine hK.out _ _ ⟨HRp_1.out, HRq_1.out⟩ (fun hHeld => ?_)
  clear hK K
  simp only [Act.put, List.setIfInBounds_toArray, List.set_cons_zero, List.set_cons_succ]
  refine pure_ (i := 6) (N := some 27) (v := ?_) (a' := ?_) #[true, true, true, true, true, true, true, true, true, true, false, false, false, false, false, false, false, false, false, false, false, false, false, false, false, false, false, false, false, false] rfl rfl (by kernel_rfl) (fun _ _ _ h => h) (Or.inl ⟨by rfl, ?_⟩) ?_ ?_
  rotate_left
  · intro w'
    go_simp
    with_reducible rfl
  rotate_left
  · simp only [Act.put, List.setIfInBounds_toArray, List.set_cons_zero, List.set_cons_succ, i64_w, i32_w]
    rfl
  refine pure_ (i := 10) (N := some 31) (v := ?_) (a' := ?_) #[true, true, true, true, true, true, true, true, true, true, true, false, false, false, false, false, false, false, false, false, false, false, false, false, false, false, false, false, false, false] rfl rfl (by kernel_rfl) (fun _ _ _ h => h) (Or.inl ⟨by rfl, ?_⟩) ?_ ?_
  rotate_left
  · intro w'
    go_simp
    with_reducible rfl
  rotate_left
  · simp only [Act.put, List.setIfInBounds_toArray, List.set_cons_zero, List.set_cons_succ, i64_w, i32_w]
    rfl
  refine pure_ (i := 11) (N := some 32) (v := ?_) (a' := ?_) #[true, true, true, true, true, true, true, true, true, true, true, true, false, false, false, false, false, false, false, false, false, false, false, false, false, false, false, false, false, false] rfl rfl (by kernel_rfl) (fun _ _ _ h => h) (Or.inl ⟨by rfl, ?_⟩) ?_ ?_
  rotate_left
  · intro w'
    go_simp
    with_reducible rfl
  rotate_left
  · simp only [Act.put, List.setIfInBounds_toArray, List.set_cons_zero, List.set_cons_succ, i64_w, i32_w]
    rfl
  refine pure_ (i := 12) (N := some 33) (v := ?_) (a' := ?_) #[true, true, true, true, true, true, true, true, true, true, true, true, true, false, false, false, false, false, false, false, false, false, false, false, false, false, false, false, false, false] rfl rfl (by kernel_rfl) (fun _ _ _ h => h) (Or.inl ⟨by rfl, ?_⟩) ?_ ?_
  rotate_left
  · intro w'
    go_simp
    with_reducible rfl
  rotate_left
  · simp only [Act.put, List.setIfInBounds_toArray, List.set_cons_zero, List.set_cons_succ, i64_w, i32_w]
    rfl
  refine pure_ (i := 13) (N := some 34) (v := ?_) (a' := ?_) #[true, true, true, true, true, true, true, true, true, true, true, true, true, true, false, false, false, false, false, false, false, false, false, false, false, false, false, false, false, false] rfl rfl (by kernel_rfl) (fun _ _ _ h => h) (Or.inl ⟨by rfl, ?_⟩) ?_ ?_
  rotate_left
  · intro w'
    go_simp
    with_reducible rfl
  rotate_left
  · simp only [Act.put, List.setIfInBounds_toArray, List.set_cons_zero, List.set_cons_succ, i64_w, i32_w]
    rfl
  refine take_ (i := 14) (N := some 35) (v := (.agg (arrV p))) #[true, true, true, true, true, true, true, true, true, true, true, true, true, true, true, false, false, false, false, false, false, false, false, false, false, false, false, false, false, false] rfl rfl (by kernel_rfl) (fun _ _ _ h => h) (ipm_load (by rfl) 23 (.tmp 2) rfl w.heap.size rfl (arrV p) 23 (0, 0) _ hu rfl hip.out (fun w' h' => h'.1)) hHeld rfl ?_
  simp only [Act.put, List.setIfInBounds_toArray, List.set_cons_zero, List.set_cons_succ]
  refine take_ (i := 15) (N := some 36) (v := (.agg (arrV p))) #[true, true, true, true, true, true, true, true, true, true, true, true, true, true, true, true, false, false, false, false, false, false, false, false, false, false, false, false, false, false] rfl rfl (by kernel_rfl) (fun _ _ _ h => h) (ipm_load (by rfl) 23 (.tmp 3) rfl (w.heap.size + 1) rfl (arrV p) 23 (0, 0) _ hu rfl hip.out (fun w' h' => h'.2)) hHeld rfl ?_
  simp only [Act.put, List.setIfInBounds_toArray, List.set_cons_zero, List.set_cons_succ]
  refine pure_ (i := 16) (N := some 37) (v := .bool true) (a' := ?_) #[true, true, true, true, true, true, true, true, true, true, true, true, true, true, true, true, true, false, false, false, false, false, false, false, false, false, false, false, false, false] rfl rfl (by kernel_rfl) (fun _ _ _ h => h) (Or.inl ⟨by rfl, ?_⟩) ?_ ?_
  · intro w'
    exact ipm_eq 23 (.tmp 35) (.tmp 36) rfl p p rfl rfl true (decide_eq_true rfl) (fun _ => by first | rfl | kernel_rfl | go_simp) hu Tryd.underlying22 (fun _ => by kernel_rfl) (fun _ => by kernel_rfl) HP8.out HP8.out w'
  rotate_left
  · simp only [Act.put, List.setIfInBounds_toArray, List.set_cons_zero, List.set_cons_succ, i64_w, i32_w]
    rfl
  refine pure_ (i := 17) (N := some 38) (v := ?_) (a' := ?_) #[true, true, true, true, true, true, true, true, true, true, true, true, true, true, true, true, true, true, false, false, false, false, false, false, false, false, false, false, false, false] rfl rfl (by kernel_rfl) (fun _ _ _ h => h) (Or.inl ⟨by rfl, ?_⟩) ?_ ?_
  rotate_left
  · intro w'
    go_simp
    with_reducible rfl
  rotate_left
  · simp only [Act.put, List.setIfInBounds_toArray, List.set_cons_zero, List.set_cons_succ, i64_w, i32_w]
    rfl
  refine pure_ (i := 18) (N := some 39) (v := ?_) (a' := ?_) #[true, true, true, true, true, true, true, true, true, true, true, true, true, true, true, true, true, true, true, false, false, false, false, false, false, false, false, false, false, false] rfl rfl (by kernel_rfl) (fun _ _ _ h => h) (Or.inl ⟨by rfl, ?_⟩) ?_ ?_
  rotate_left
  · intro w'
    go_simp
    with_reducible rfl
  rotate_left
  · simp only [Act.put, List.setIfInBounds_toArray, List.set_cons_zero, List.set_cons_succ, i64_w, i32_w]
    rfl
  refine pure_ (i := 19) (N := some 40) (v := ?_) (a' := ?_) #[true, true, true, true, true, true, true, true, true, true, true, true, true, true, true, true, true, true, true, true, false, false, false, false, false, false, false, false, false, false] rfl rfl (by kernel_rfl) (fun _ _ _ h => h) (Or.inl ⟨by rfl, ?_⟩) ?_ ?_
  rotate_left
  · intro w'
    go_simp
    with_reducible rfl
  rotate_left
  · simp only [Act.put, List.setIfInBounds_toArray, List.set_cons_zero, List.set_cons_succ, i64_w, i32_w]
    rfl
  refine pure_ (i := 20) (N := some 41) (v := ?_) (a' := ?_) #[true, true, true, true, true, true, true, true, true, true, true, true, true, true, true, true, true, true, true, true, true, false, false, false, false, false, false, false, false, false] rfl rfl (by kernel_rfl) (fun _ _ _ h => h) (Or.inl ⟨by rfl, ?_⟩) ?_ ?_
  rotate_left
  · intro w'
    go_simp
    with_reducible rfl
  rotate_left
  · simp only [Act.put, List.setIfInBounds_toArray, List.set_cons_zero, List.set_cons_succ, i64_w, i32_w]
    rfl
  refine pure_ (i := 21) (N := some 42) (v := ?_) (a' := ?_) #[true, true, true, true, true, true, true, true, true, true, true, true, true, true, true, true, true, true, true, true, true, true, false, false, false, false, false, false, false, false] rfl rfl (by kernel_rfl) (fun _ _ _ h => h) (Or.inl ⟨by rfl, ?_⟩) ?_ ?_
  rotate_left
  · intro w'
    go_simp
    with_reducible rfl
  rotate_left
  · simp only [Act.put, List.setIfInBounds_toArray, List.set_cons_zero, List.set_cons_succ, i64_w, i32_w]
    rfl
  refine pure_ (i := 22) (N := some 43) (v := ?_) (a' := ?_) #[true, true, true, true, true, true, true, true, true, true, true, true, true, true, true, true, true, true, true, true, true, true, true, false, false, false, false, false, false, false] rfl rfl (by kernel_rfl) (fun _ _ _ h => h) (Or.inl ⟨by rfl, ?_⟩) ?_ ?_
  rotate_left
  · intro w'
    go_simp
    with_reducible rfl
  rotate_left
  · simp only [Act.put, List.setIfInBounds_toArray, List.set_cons_zero, List.set_cons_succ, i64_w, i32_w]
    rfl
  refine pure_ (i := 23) (N := some 44) (v := ?_) (a' := ?_) #[true, true, true, true, true, true, true, true, true, true, true, true, true, true, true, true, true, true, true, true, true, true, true, true, false, false, false, false, false, false] rfl rfl (by kernel_rfl) (fun _ _ _ h => h) (Or.inl ⟨by rfl, ?_⟩) ?_ ?_
  rotate_left
  · intro w'
    go_simp
    with_reducible rfl
  rotate_left
  · simp only [Act.put, List.setIfInBounds_toArray, List.set_cons_zero, List.set_cons_succ, i64_w, i32_w]
    rfl
  refine take_ (i := 24) (N := some 45) (v := (.agg (arrV p))) #[true, true, true, true, true, true, true, true, true, true, true, true, true, true, true, true, true, true, true, true, true, true, true, true, true, false, false, false, false, false] rfl rfl (by kernel_rfl) (fun _ _ _ h => h) (ipm_load (by rfl) 23 (.tmp 3) rfl (w.heap.size + 1) rfl (arrV p) 23 (0, 0) _ hu rfl hip.out (fun w' h' => h'.2)) hHeld rfl ?_
  simp only [Act.put, List.setIfInBounds_toArray, List.set_cons_zero, List.set_cons_succ]
  refine one_ (i := 25) (N := some 46) #[true, true, true, true, true, true, true, true, true, true, true, true, true, true, true, true, true, true, true, true, true, true, true, true, true, true, false, false, false, false] rfl rfl (by kernel_rfl) (by decide) (fun K hK => ?_)
  refine goes_ Tryd.func10 (by kernel_rfl) rfl #[.agg (arrV p)] (by rfl) rfl rfl (by first | rfl | (simp only [List.map_toArray, List.map_cons, List.map_nil]; rfl)) ?_
  with_reducible refine (ip_Print6.gcalls k p tp _ hp6 (Own.ipW_below HT.out HB1.out)).mono ?_
  rintro e w8 ⟨rfl, hb⟩
  refine ⟨_, rfl, ?_⟩
  have n_HB1 := Aside0.mk (below_step HB1.out hb); have n_HRp_1 := Aside0.mk (blk_below HRp_1.out hb); have n_HRq_1 := Aside0.mk (blk_below HRq_1.out hb); clear HB1 HRp_1 HRq_1; have HB1 := n_HB1; have HRp_1 := n_HRp_1; have HRq_1 := n_HRq_1; clear n_HB1 n_HRp_1 n_HRq_1
  clear hb hHeld
  refine hK.out _ _ ⟨HRp_1.out, HRq_1.out⟩ (fun hHeld => ?_)
  clear hK K
  simp only [Act.put, List.setIfInBounds_toArray, List.set_cons_zero, List.set_cons_succ]
  refine pure_ (i := 26) (N := some 47) (v := ?_) (a' := ?_) #[true, true, true, true, true, true, true, true, true, true, true, true, true, true, true, true, true, true, true, true, true, true, true, true, true, true, true, false, false, false] rfl rfl (by kernel_rfl) (fun _ _ _ h => h) (Or.inl ⟨by rfl, ?_⟩) ?_ ?_
  rotate_left
  · intro w'
    go_simp
    with_reducible rfl
  rotate_left
  · simp only [Act.put, List.setIfInBounds_toArray, List.set_cons_zero, List.set_cons_succ, i64_w, i32_w]
    rfl
  refine pure_ (i := 27) (N := some 48) (v := ?_) (a' := ?_) #[true, true, true, true, true, true, true, true, true, true, true, true, true, true, true, true, true, true, true, true, true, true, true, true, true, true, true, true, false, false] rfl rfl (by kernel_rfl) (fun _ _ _ h => h) (Or.inl ⟨by rfl, ?_⟩) ?_ ?_
  rotate_left
  · intro w'
    go_simp
    with_reducible rfl
  rotate_left
  · simp only [Act.put, List.setIfInBounds_toArray, List.set_cons_zero, List.set_cons_succ, i64_w, i32_w]
    rfl
  refine pure_ (i := 28) (N := some 49) (v := ?_) (a' := ?_) #[true, true, true, true, true, true, true, true, true, true, true, true, true, true, true, true, true, true, true, true, true, true, true, true, true, true, true, true, true, false] rfl rfl (by kernel_rfl) (fun _ _ _ h => h) (Or.inl ⟨by rfl, ?_⟩) ?_ ?_
  rotate_left
  · intro w'
    go_simp
    with_reducible rfl
  rotate_left
  · simp only [Act.put, List.setIfInBounds_toArray, List.set_cons_zero, List.set_cons_succ, i64_w, i32_w]
    rfl
  refine pure_ (i := 29) (N := some 4) (v := ?_) (a' := ?_) #[true, true, true, true, true, true, true, true, true, true, true, true, true, true, true, true, true, true, true, true, true, true, true, true, true, true, true, true, true, true] rfl rfl (by kernel_rfl) (fun _ _ _ h => h) (Or.inl ⟨by rfl, ?_⟩) ?_ ?_
  rotate_left
  · intro w'
    go_simp
    with_reducible rfl
  rotate_left
  · simp only [Act.put, List.setIfInBounds_toArray, List.set_cons_zero, List.set_cons_succ, i64_w, i32_w]
    rfl
  refine done_ (by kernel_rfl) ?_
  clear hHeld
  go_wp2
  go_ret
  exact ⟨rfl, HB1.out⟩
set_option maxHeartbeats 4000000 in
set_option maxRecDepth 100000 in
theorem sprlaw7_IpKeys.apart (k : Nat) (p q : List Int) (tp tq : ByteArray) (w : World) (hT : Own.ipW w) (hp8 : p.length = 8) (hq8 : q.length = 8) (hne : p ≠ q) (hne2 : tp ≠ tq) (hp6 : ip_Print6.g k p = some tp) (hq6 : ip_Print6.g k q = some tq) :
    Calls Tryd.prog 3 #[.agg (arrV p), .agg (arrV q)] w fun e w' => e = .returned (.bool true) ∧ Below w.heap.size w w' := by
  have HT := Aside0.mk hT
  have hu := Tryd.underlying23
  have hi0 : (Tryd.prog.info? 23).map (·.size) = some (arrV zero8).size := by kernel_rfl
  have T0 := Aside0.mk trivial
  obtain ⟨w0, hw0⟩ : ∃ w0, w0 = (w.alloc (.cells (arrV p) 23)).alloc (.cells (arrV q) 23) := ⟨_, rfl⟩
  have HB0 : Aside0 (Below w.heap.size w w0) := ⟨by rw [hw0]; exact below_alloc (below_alloc (Below.refl _ _) _) _⟩
  have HRp_0 : Aside0 (w0.heap[w.heap.size]? = some (.cells (arrV p) 23 (0, 0))) := ⟨by rw [hw0]; exact blk_alloc (blk_new _ _) _⟩
  have HRq_0 : Aside0 (w0.heap[(w.heap.size + 1)]? = some (.cells (arrV q) 23 (0, 0))) := ⟨by rw [hw0]; have h_ := blk_new (w.alloc (.cells (arrV p) 23)) (.cells (arrV q) 23); rwa [show (w.alloc (.cells (arrV p) 23)).heap.size = w.heap.size + 1 from Array.size_push _] at h_⟩
  have hip : Aside0 ((Tryd.prog.info? 23).map (·.size) = some (arrV p).size) := ⟨by rw [arr_size, hp8]; kernel_rfl⟩
  have hiq : Aside0 ((Tryd.prog.info? 23).map (·.size) = some (arrV q).size) := ⟨by rw [arr_size, hq8]; kernel_rfl⟩
  have hc : Aside0 (decide (p = q) = false) := ⟨decide_eq_false hne⟩
  have HP8 := Aside0.mk hp8
  have hc2 : Aside0 (decide (q = p) = false) := ⟨decide_eq_false (fun h => hne h.symm)⟩
  have HQ8 := Aside0.mk hq8
  have HNE := Aside0.mk hne
  have hte : Aside0 (tp ≠ tq) := ⟨hne2⟩
  have he9 : (tp.toList == tq.toList) = false := beq_eq_false_iff_ne.2 (fun h_ => hne2 (ByteArray.ext (Array.toList_inj.1 (by rw [Lib.toList_data, Lib.toList_data] at h_; exact h_))))
  clear hne2 hne hq8
  clear hp8
  go_enter Tryd.func3, Tryd.ntmps3
  go_wp2_with (first | (clear T0; go_at_call 9; rw [← hw0]; clear hw0; (with_reducible refine (sprlaw7_first.calls 0 true _ rfl (Own.ipW_below HT.out HB0.out)).mono ?_); rintro e w1 ⟨rfl, hb⟩; have HB1 := Aside0.mk (HB0.out.trans (hb.mono HB0.out.size)); have HRp_1 := Aside0.mk (blk_below HRp_0.out hb); have HRq_1 := Aside0.mk (blk_below HRq_0.out hb); clear hb HB0 HRp_0 HRq_0; have T1 := Aside0.mk trivial))
  have n_HB1 := Aside0.mk (below_drew1 HB1.out); have n_HRp_1 := Aside0.mk (blk_drew HRp_1.out); have n_HRq_1 := Aside0.mk (blk_drew HRq_1.out); clear HB1 HRp_1 HRq_1; have HB1 := n_HB1; have HRp_1 := n_HRp_1; have HRq_1 := n_HRq_1; clear n_HB1 n_HRp_1 n_HRq_1
  refine start_ (n := 7) (S := fun w' => w'.heap[w.heap.size]? = some (.cells (arrV p) 23 (0, 0)) ∧ w'.heap[(w.heap.size + 1)]? = some (.cells (arrV q) 23 (0, 0))) (ds := []) #[false, false, false, false, false, false, false] (by kernel_rfl) rfl rfl ⟨HRp_1.out, HRq_1.out⟩ (fun hHeld => ?_)
  generalize World.drew _ = wd3 at HB1 HRp_1 HRq_1 hHeld ⊢
  refine take_ (i := 1) (N := some 11) (v := (.agg (arrV p))) #[false, true, false, false, false, false, false] rfl rfl (by kernel_rfl) (fun _ _ _ h => h) (ipm_load (by rfl) 23 (.tmp 2) rfl w.heap.size rfl (arrV p) 23 (0, 0) _ hu rfl hip.out (fun w' h' => h'.1)) hHeld rfl ?_
  simp only [Act.put, List.setIfInBounds_toArray, List.set_cons_zero, List.set_cons_succ]
  refine take_ (i := 2) (N := some 12) (v := (.agg (arrV p))) #[false, true, true, false, false, false, false] rfl rfl (by kernel_rfl) (fun _ _ _ h => h) (ipm_load (by rfl) 23 (.tmp 2) rfl w.heap.size rfl (arrV p) 23 (0, 0) _ hu rfl hip.out (fun w' h' => h'.1)) hHeld rfl ?_
  simp only [Act.put, List.setIfInBounds_toArray, List.set_cons_zero, List.set_cons_succ]
  refine join_ (σ := Nat) 3 #[true, true, true, true, false, false, false] (fun b => [(10, .map (some b)), (13, .string tp)]) (fun b w' => Below w.heap.size w w' ∧ w'.heap[w.heap.size]? = some (.cells (arrV p) 23 (0, 0)) ∧ w'.heap[(w.heap.size + 1)]? = some (.cells (arrV q) 23 (0, 0)) ∧ w'.heap[b]? = some (.map #[] 0) ∧ w.heap.size + 1 < b) ?_ ?_
  rotate_left
  · intro hCont
    clear hHeld
    refine two_ (i := 0) (j := 3) (Ni := some 10) (Nj := some 13) #[true, true, true, false, false, false, false] #[false, true, true, true, false, false, false] rfl rfl rfl rfl (by kernel_rfl) (by decide) (by decide) (fun K hK => ?_) (fun K hK => ?_)
    · skip
      refine value_ (w1 := wd3.alloc (.map #[] 0)) (v := .map (some wd3.heap.size)) (by rfl) rfl (ipm_make 26 rfl) ?_
      have hmb : Aside0 (w.heap.size + 1 < wd3.heap.size) := ⟨blk_lt HRq_1.out⟩
      obtain ⟨mb, hm⟩ : ∃ x, x = wd3.heap.size := ⟨_, rfl⟩; rw [← hm] at hmb ⊢
      obtain ⟨wm, hwm⟩ : ∃ x, x = wd3.alloc (.map #[] 0) := ⟨_, rfl⟩; rw [← hwm]
      have HM : Aside0 (wm.heap[mb]? = some (.map #[] 0)) := ⟨by rw [hwm, hm]; exact blk_new _ _⟩
      have hb : Below wd3.heap.size wd3 wm := by rw [hwm]; exact below_alloc (Below.refl _ _) _
      clear hwm hm
      have n_HB1 := Aside0.mk (below_step HB1.out hb); have n_HRp_1 := Aside0.mk (blk_below HRp_1.out hb); have n_HRq_1 := Aside0.mk (blk_below HRq_1.out hb); clear HB1 HRp_1 HRq_1; have HB1 := n_HB1; have HRp_1 := n_HRp_1; have HRq_1 := n_HRq_1; clear n_HB1 n_HRp_1 n_HRq_1
      clear hb
      refine hK.out _ _ ⟨HRp_1.out, HRq_1.out⟩ (fun hHeld => ?_)
      clear hK K hHeld
      simp only [Act.put, List.setIfInBounds_toArray, List.set_cons_zero, List.set_cons_succ]
      refine one_ (i := 3) (N := some 13) #[true, true, true, true, false, false, false] rfl rfl (by kernel_rfl) (by decide) (fun K hK => ?_)
      refine goes_ Tryd.func10 (by kernel_rfl) rfl #[.agg (arrV p)] (by rfl) rfl rfl (by first | rfl | (simp only [List.map_toArray, List.map_cons, List.map_nil]; rfl)) ?_
      with_reducible refine (ip_Print6.gcalls k p tp _ hp6 (Own.ipW_below HT.out HB1.out)).mono ?_
      rintro e w3 ⟨rfl, hb⟩
      refine ⟨_, rfl, ?_⟩
      have n_HB1 := Aside0.mk (below_step HB1.out hb); have n_HRp_1 := Aside0.mk (blk_below HRp_1.out hb); have n_HRq_1 := Aside0.mk (blk_below HRq_1.out hb); have n_HM := Aside0.mk (blk_below HM.out hb); clear HM; have HM := n_HM; clear n_HM; clear HB1 HRp_1 HRq_1; have HB1 := n_HB1; have HRp_1 := n_HRp_1; have HRq_1 := n_HRq_1; clear n_HB1 n_HRp_1 n_HRq_1
      clear hb
      refine hK.out _ _ ⟨HRp_1.out, HRq_1.out⟩ (fun hHeld => ?_)
      clear hK K hHeld
      exact hCont mb _ ⟨HB1.out, HRp_1.out, HRq_1.out, HM.out, hmb.out⟩
    · skip
      refine goes_ Tryd.func10 (by kernel_rfl) rfl #[.agg (arrV p)] (by rfl) rfl rfl (by first | rfl | (simp only [List.map_toArray, List.map_cons, List.map_nil]; rfl)) ?_
      with_reducible refine (ip_Print6.gcalls k p tp _ hp6 (Own.ipW_below HT.out HB1.out)).mono ?_
      rintro e w3 ⟨rfl, hb⟩
      refine ⟨_, rfl, ?_⟩
      have n_HB1 := Aside0.mk (below_step HB1.out hb); have n_HRp_1 := Aside0.mk (blk_below HRp_1.out hb); have n_HRq_1 := Aside0.mk (blk_below HRq_1.out hb); clear HB1 HRp_1 HRq_1; have HB1 := n_HB1; have HRp_1 := n_HRp_1; have HRq_1 := n_HRq_1; clear n_HB1 n_HRp_1 n_HRq_1
      clear hb
      refine hK.out _ _ ⟨HRp_1.out, HRq_1.out⟩ (fun hHeld => ?_)
      clear hK K hHeld
      simp only [Act.put, List.setIfInBounds_toArray, List.set_cons_zero, List.set_cons_succ]
      refine one_ (i := 0) (N := some 10) #[true, true, true, true, false, false, false] rfl rfl (by kernel_rfl) (by decide) (fun K hK => ?_)
      refine value_ (w1 := w3.alloc (.map #[] 0)) (v := .map (some w3.heap.size)) (by rfl) rfl (ipm_make 26 rfl) ?_
      have hmb : Aside0 (w.heap.size + 1 < w3.heap.size) := ⟨blk_lt HRq_1.out⟩
      obtain ⟨mb, hm⟩ : ∃ x, x = w3.heap.size := ⟨_, rfl⟩; rw [← hm] at hmb ⊢
      obtain ⟨wm, hwm⟩ : ∃ x, x = w3.alloc (.map #[] 0) := ⟨_, rfl⟩; rw [← hwm]
      have HM : Aside0 (wm.heap[mb]? = some (.map #[] 0)) := ⟨by rw [hwm, hm]; exact blk_new _ _⟩
      have hb : Below w3.heap.size w3 wm := by rw [hwm]; exact below_alloc (Below.refl _ _) _
      clear hwm hm
      have n_HB1 := Aside0.mk (below_step HB1.out hb); have n_HRp_1 := Aside0.mk (blk_below HRp_1.out hb); have n_HRq_1 := Aside0.mk (blk_below HRq_1.out hb); clear HB1 HRp_1 HRq_1; have HB1 := n_HB1; have HRp_1 := n_HRp_1; have HRq_1 := n_HRq_1; clear n_HB1 n_HRp_1 n_HRq_1
      clear hb
      refine hK.out _ _ ⟨HRp_1.out, HRq_1.out⟩ (fun hHeld => ?_)
      clear hK K hHeld
      exact hCont mb _ ⟨HB1.out, HRp_1.out, HRq_1.out, HM.out, hmb.out⟩
  clear HB1 HRp_1 HRq_1 hHeld
  rintro mb w3 ⟨hB_, hP_, hQ_, hM_, hmb_⟩
  have HB1 := Aside0.mk hB_; have HRp_1 := Aside0.mk hP_; have HRq_1 := Aside0.mk hQ_; have HM := Aside0.mk hM_; have hmb := Aside0.mk hmb_; clear hB_ hP_ hQ_ hM_ hmb_
  simp only [putAll, Act.put, List.setIfInBounds_toArray, List.set_cons_zero, List.set_cons_succ]
  refine one_ (i := 4) (N := none) #[true, true, true, true, true, false, false] rfl rfl (by kernel_rfl) (by decide) (fun K hK => ?_)
  refine skip_ (by rfl) rfl (ipm_skip 26 (.tmp 10) (.tmp 11) (.tmp 13) rfl _ _ _ rfl rfl rfl (ipm_ins (P := Tryd.prog) (mt := 26) (t := 23) (e := 22) (et := 9) (n := 8) Tryd.underlying26 hu Tryd.underlying22 (fun _ => by kernel_rfl) (fun _ => by kernel_rfl) p HP8.out mb 0 (.string tp) w3 HM.out)) ?_
  obtain ⟨w4, hw4⟩ : ∃ x : World, x = { w3 with heap := w3.heap.setIfInBounds mb (.map #[{ key := .agg (arrV p), val := .string tp, born := 0 }] (0 + 1)) } := ⟨_, rfl⟩; rw [← hw4]
  have n_B := Aside0.mk (hw4 ▸ ipm_below HB1.out (by have := hmb.out; omega) : Below w.heap.size w w4); have n_P := Aside0.mk (hw4 ▸ ipm_other HRp_1.out (by have := hmb.out; omega) : w4.heap[w.heap.size]? = some (.cells (arrV p) 23 (0, 0))); have n_Q := Aside0.mk (hw4 ▸ ipm_other HRq_1.out (by have := hmb.out; omega) : w4.heap[(w.heap.size + 1)]? = some (.cells (arrV q) 23 (0, 0))); have n_M := Aside0.mk (hw4 ▸ ipm_at HM.out : w4.heap[mb]? = some (.map #[{ key := .agg (arrV p), val := .string tp, born := 0 }] (0 + 1)))
  clear HB1 HRp_1 HRq_1 HM hw4; have HB1 := n_B; have HRp_1 := n_P; have HRq_1 := n_Q; have HM := n_M; clear n_B n_P n_Q n_M
  refine hK.out _ _ ⟨HRp_1.out, HRq_1.out⟩ (fun hHeld => ?_)
  clear hK K
  try simp only [Act.put, List.setIfInBounds_toArray, List.set_cons_zero, List.set_cons_succ]
  refine pure_ (i := 5) (N := some 14) (v := ?_) (a' := ?_) #[true, true, true, true, true, true, false] rfl rfl (by kernel_rfl) (fun _ _ _ h => h) (Or.inl ⟨by rfl, ?_⟩) ?_ ?_
  rotate_left
  · intro w'
    go_simp
    with_reducible rfl
  rotate_left
  · simp only [Act.put, List.setIfInBounds_toArray, List.set_cons_zero, List.set_cons_succ, i64_w, i32_w]
    rfl
  refine pure_ (i := 6) (N := some 5) (v := ?_) (a' := ?_) #[true, true, true, true, true, true, true] rfl rfl (by kernel_rfl) (fun _ _ _ h => h) (Or.inl ⟨by rfl, ?_⟩) ?_ ?_
  rotate_left
  · intro w'
    go_simp
    with_reducible rfl
  rotate_left
  · simp only [Act.put, List.setIfInBounds_toArray, List.set_cons_zero, List.set_cons_succ, i64_w, i32_w]
    rfl
  refine done_ (by kernel_rfl) ?_
  clear hHeld
  have hlk : ∀ z, (zeroValue 9).run Tryd.prog w4 = .ok z w4 → (Instr.lookup 26 (.map (some mb)) (.agg (arrV q)) true).run Tryd.prog w4 = .ok (.tuple #[if q = p then .string tp else z, .bool (decide (q = p))]) w4 := fun z hz => ipm_look (P := Tryd.prog) (mt := 26) (t := 23) (e := 22) (et := 9) (n := 8) Tryd.underlying26 hu Tryd.underlying22 (fun _ => by kernel_rfl) (fun _ => by kernel_rfl) p q HP8.out HQ8.out mb 0 _ (.string tp) z w4 hz HM.out
  have HL : Aside0 ((Instr.lookup 26 (.map (some mb)) (.agg (arrV q)) true).run Tryd.prog w4 = .ok (.tuple #[.string ByteArray.empty, .bool false]) w4) := ⟨by have h_ := hlk (.string ByteArray.empty) (by first | rfl | kernel_rfl); rw [if_neg (fun h => HNE.out h.symm), hc2.out] at h_; exact h_⟩
  clear hlk
  have T9 := Aside0.mk trivial
  go_wp2_with (first | ((with_reducible refine gate_dst (N := 17) rfl ?_); refine gate_guard (by rfl) ?_; refine wpList_load_row rfl 23 (.tmp 3) rfl (w.heap.size + 1) rfl 23 (arrV q) (0, 0) _ HRq_1.out hu rfl hiq.out ?_) | ((with_reducible refine gate_dst (N := 18) rfl ?_); refine gate_guard (by rfl) ?_; refine ipm_wp_look rfl 26 (.tmp 16) (.tmp 17) rfl _ _ _ rfl rfl HL.out ?_))
  clear HL HM T9
  have n_HB1 := Aside0.mk (below_drew1 HB1.out); have n_HRp_1 := Aside0.mk (blk_drew HRp_1.out); have n_HRq_1 := Aside0.mk (blk_drew HRq_1.out); clear HB1 HRp_1 HRq_1; have HB1 := n_HB1; have HRp_1 := n_HRp_1; have HRq_1 := n_HRq_1; clear n_HB1 n_HRp_1 n_HRq_1
  refine start_ (n := 30) (S := fun w' => w'.heap[w.heap.size]? = some (.cells (arrV p) 23 (0, 0)) ∧ w'.heap[(w.heap.size + 1)]? = some (.cells (arrV q) 23 (0, 0))) (ds := []) #[false, false, false, false, false, false, false, false, false, false, false, false, false, false, false, false, false, false, false, false, false, false, false, false, false, false, false, false, false, false] (by kernel_rfl) rfl rfl ⟨HRp_1.out, HRq_1.out⟩ (fun hHeld => ?_)
  generalize World.drew _ = wd5 at HB1 HRp_1 HRq_1 hHeld ⊢
  refine one_ (i := 0) (N := some 21) #[true, false, false, false, false, false, false, false, false, false, false, false, false, false, false, false, false, false, false, false, false, false, false, false, false, false, false, false, false, false] rfl rfl (by kernel_rfl) (by decide) (fun K hK => ?_)
  refine goes_ Tryd.func9 (by kernel_rfl) rfl #[] (by rfl) rfl rfl (by simp) ?_
  with_reducible refine (sprlaw7_first.calls 0 true _ rfl (Own.ipW_below HT.out HB1.out)).mono ?_
  rintro e w5 ⟨rfl, hb⟩
  refine ⟨_, rfl, ?_⟩
  have n_HB1 := Aside0.mk (below_step HB1.out hb); have n_HRp_1 := Aside0.mk (blk_below HRp_1.out hb); have n_HRq_1 := Aside0.mk (blk_below HRq_1.out hb); clear HB1 HRp_1 HRq_1; have HB1 := n_HB1; have HRp_1 := n_HRp_1; have HRq_1 := n_HRq_1; clear n_HB1 n_HRp_1 n_HRq_1
  clear hb hHeld
  refine hK.out _ _ ⟨HRp_1.out, HRq_1.out⟩ (fun hHeld => ?_)
  clear hK K
  simp only [Act.put, List.setIfInBounds_toArray, List.set_cons_zero, List.set_cons_succ]
  refine pure_ (i := 1) (N := some 22) (v := ?_) (a' := ?_) #[true, true, false, false, false, false, false, false, false, false, false, false, false, false, false, false, false, false, false, false, false, false, false, false, false, false, false, false, false, false] rfl rfl (by kernel_rfl) (fun _ _ _ h => h) (Or.inl ⟨by rfl, ?_⟩) ?_ ?_
  rotate_left
  · intro w'
    go_simp
    with_reducible rfl
  rotate_left
  · simp only [Act.put, List.setIfInBounds_toArray, List.set_cons_zero, List.set_cons_succ, i64_w, i32_w]
    rfl
  refine take_ (i := 2) (N := some 23) (v := (.agg (arrV p))) #[true, true, true, false, false, false, false, false, false, false, false, false, false, false, false, false, false, false, false, false, false, false, false, false, false, false, false, false, false, false] rfl rfl (by kernel_rfl) (fun _ _ _ h => h) (ipm_load (by rfl) 23 (.tmp 2) rfl w.heap.size rfl (arrV p) 23 (0, 0) _ hu rfl hip.out (fun w' h' => h'.1)) hHeld rfl ?_
  simp only [Act.put, List.setIfInBounds_toArray, List.set_cons_zero, List.set_cons_succ]
  refine take_ (i := 4) (N := some 25) (v := (.agg (arrV q))) #[true, true, true, false, true, false, false, false, false, false, false, false, false, false, false, false, false, false, false, false, false, false, false, false, false, false, false, false, false, false] rfl rfl (by kernel_rfl) (fun _ _ _ h => h) (ipm_load (by rfl) 23 (.tmp 3) rfl (w.heap.size + 1) rfl (arrV q) 23 (0, 0) _ hu rfl hiq.out (fun w' h' => h'.2)) hHeld rfl ?_
  simp only [Act.put, List.setIfInBounds_toArray, List.set_cons_zero, List.set_cons_succ]
  refine take_ (i := 7) (N := some 28) (v := (.agg (arrV p))) #[true, true, true, false, true, false, false, true, false, false, false, false, false, false, false, false, false, false, false, false, false, false, false, false, false, false, false, false, false, false] rfl rfl (by kernel_rfl) (fun _ _ _ h => h) (ipm_load (by rfl) 23 (.tmp 2) rfl w.heap.size rfl (arrV p) 23 (0, 0) _ hu rfl hip.out (fun w' h' => h'.1)) hHeld rfl ?_
  simp only [Act.put, List.setIfInBounds_toArray, List.set_cons_zero, List.set_cons_succ]
  refine take_ (i := 8) (N := some 29) (v := (.agg (arrV q))) #[true, true, true, false, true, false, false, true, true, false, false, false, false, false, false, false, false, false, false, false, false, false, false, false, false, false, false, false, false, false] rfl rfl (by kernel_rfl) (fun _ _ _ h => h) (ipm_load (by rfl) 23 (.tmp 3) rfl (w.heap.size + 1) rfl (arrV q) 23 (0, 0) _ hu rfl hiq.out (fun w' h' => h'.2)) hHeld rfl ?_
  simp only [Act.put, List.setIfInBounds_toArray, List.set_cons_zero, List.set_cons_succ]
  refine pure_ (i := 9) (N := some 30) (v := .bool false) (a' := ?_) #[true, true, true, false, true, false, false, true, true, true, false, false, false, false, false, false, false, false, false, false, false, false, false, false, false, false, false, false, false, false] rfl rfl (by kernel_rfl) (fun _ _ _ h => h) (Or.inl ⟨by rfl, ?_⟩) ?_ ?_
  · intro w'
    exact ipm_eq 23 (.tmp 28) (.tmp 29) rfl p q rfl rfl false hc.out (fun _ => by first | rfl | kernel_rfl | go_simp) hu Tryd.underlying22 (fun _ => by kernel_rfl) (fun _ => by kernel_rfl) HP8.out HQ8.out w'
  rotate_left
  · simp only [Act.put, List.setIfInBounds_toArray, List.set_cons_zero, List.set_cons_succ, i64_w, i32_w]
    rfl
  refine one_ (i := 3) (N := some 24) #[true, true, true, true, true, false, false, true, true, true, false, false, false, false, false, false, false, false, false, false, false, false, false, false, false, false, false, false, false, false] rfl rfl (by kernel_rfl) (by decide) (fun K hK => ?_)
  refine goes_ Tryd.func10 (by kernel_rfl) rfl #[.agg (arrV p)] (by rfl) rfl rfl (by first | rfl | (simp only [List.map_toArray, List.map_cons, List.map_nil]; rfl)) ?_
  with_reducible refine (ip_Print6.gcalls k p tp _ hp6 (Own.ipW_below HT.out HB1.out)).mono ?_
  rintro e w6 ⟨rfl, hb⟩
  refine ⟨_, rfl, ?_⟩
  have n_HB1 := Aside0.mk (below_step HB1.out hb); have n_HRp_1 := Aside0.mk (blk_below HRp_1.out hb); have n_HRq_1 := Aside0.mk (blk_below HRq_1.out hb); clear HB1 HRp_1 HRq_1; have HB1 := n_HB1; have HRp_1 := n_HRp_1; have HRq_1 := n_HRq_1; clear n_HB1 n_HRp_1 n_HRq_1
  clear hb hHeld
  refine hK.out _ _ ⟨HRp_1.out, HRq_1.out⟩ (fun hHeld => ?_)
  clear hK K
  simp only [Act.put, List.setIfInBounds_toArray, List.set_cons_zero, List.set_cons_succ]
  refine one_ (i := 5) (N := some 26) #[true, true, true, true, true, true, false, true, true, true, false, false, false, false, false, false, false, false, false, false, false, false, false, false, false, false, false, false, false, false] rfl rfl (by kernel_rfl) (by decide) (fun K hK => ?_)
  refine goes_ Tryd.func10 (by kernel_rfl) rfl #[.agg (arrV q)] (by rfl) rfl rfl (by first | rfl | (simp only [List.map_toArray, List.map_cons, List.map_nil]; rfl)) ?_
  with_reducible refine (ip_Print6.gcalls k q tq _ hq6 (Own.ipW_below HT.out HB1.out)).mono ?_
  rintro e w7 ⟨rfl, hb⟩
  refine ⟨_, rfl, ?_⟩
  have n_HB1 := Aside0.mk (below_step HB1.out hb); have n_HRp_1 := Aside0.mk (blk_below HRp_1.out hb); have n_HRq_1 := Aside0.mk (blk_below HRq_1.out hb); clear HB1 HRp_1 HRq_1; have HB1 := n_HB1; have HRp_1 := n_HRp_1; have HRq_1 := n_HRq_1; clear n_HB1 n_HRp_1 n_HRq_1
  clear hb hHeld
  refine hK.out _ _ ⟨HRp_1.out, HRq_1.out⟩ (fun hHeld => ?_)
  clear hK K
  simp only [Act.put, List.setIfInBounds_toArray, List.set_cons_zero, List.set_cons_succ]
  refine pure_ (i := 6) (N := some 27) (v := ?_) (a' := ?_) #[true, true, true, true, true, true, true, true, true, true, false, false, false, false, false, false, false, false, false, false, false, false, false, false, false, false, false, false, false, false] rfl rfl (by kernel_rfl) (fun _ _ _ h => h) (Or.inl ⟨by rfl, ?_⟩) ?_ ?_
  rotate_left
  · intro w'
    go_simp
    with_reducible rfl
  rotate_left
  · simp only [Act.put, List.setIfInBounds_toArray, List.set_cons_zero, List.set_cons_succ, i64_w, i32_w]
    rfl
  refine pure_ (i := 10) (N := some 31) (v := ?_) (a' := ?_) #[true, true, true, true, true, true, true, true, true, true, true, false, false, false, false, false, false, false, false, false, false, false, false, false, false, false, false, false, false, false] rfl rfl (by kernel_rfl) (fun _ _ _ h => h) (Or.inl ⟨by rfl, ?_⟩) ?_ ?_
  rotate_left
  · intro w'
    go_simp
    with_reducible rfl
  rotate_left
  · simp only [Act.put, List.setIfInBounds_toArray, List.set_cons_zero, List.set_cons_succ, i64_w, i32_w]
    rfl
  refine pure_ (i := 11) (N := some 32) (v := ?_) (a' := ?_) #[true, true, true, true, true, true, true, true, true, true, true, true, false, false, false, false, false, false, false, false, false, false, false, false, false, false, false, false, false, false] rfl rfl (by kernel_rfl) (fun _ _ _ h => h) (Or.inl ⟨by rfl, ?_⟩) ?_ ?_
  rotate_left
  · intro w'
    go_simp
    with_reducible rfl
  rotate_left
  · simp only [Act.put, List.setIfInBounds_toArray, List.set_cons_zero, List.set_cons_succ, i64_w, i32_w]
    rfl
  refine pure_ (i := 12) (N := some 33) (v := ?_) (a' := ?_) #[true, true, true, true, true, true, true, true, true, true, true, true, true, false, false, false, false, false, false, false, false, false, false, false, false, false, false, false, false, false] rfl rfl (by kernel_rfl) (fun _ _ _ h => h) (Or.inl ⟨by rfl, ?_⟩) ?_ ?_
  rotate_left
  · intro w'
    go_simp
    with_reducible rfl
  rotate_left
  · simp only [Act.put, List.setIfInBounds_toArray, List.set_cons_zero, List.set_cons_succ, i64_w, i32_w]
    rfl
  refine pure_ (i := 13) (N := some 34) (v := ?_) (a' := ?_) #[true, true, true, true, true, true, true, true, true, true, true, true, true, true, false, false, false, false, false, false, false, false, false, false, false, false, false, false, false, false] rfl rfl (by kernel_rfl) (fun _ _ _ h => h) (Or.inl ⟨by rfl, ?_⟩) ?_ ?_
  rotate_left
  · intro w'
    go_simp
    with_reducible rfl
  rotate_left
  · simp only [Act.put, List.setIfInBounds_toArray, List.set_cons_zero, List.set_cons_succ, i64_w, i32_w]
    rfl
  refine take_ (i := 14) (N := some 35) (v := (.agg (arrV p))) #[true, true, true, true, true, true, true, true, true, true, true, true, true, true, true, false, false, false, false, false, false, false, false, false, false, false, false, false, false, false] rfl rfl (by kernel_rfl) (fun _ _ _ h => h) (ipm_load (by rfl) 23 (.tmp 2) rfl w.heap.size rfl (arrV p) 23 (0, 0) _ hu rfl hip.out (fun w' h' => h'.1)) hHeld rfl ?_
  simp only [Act.put, List.setIfInBounds_toArray, List.set_cons_zero, List.set_cons_succ]
  refine take_ (i := 15) (N := some 36) (v := (.agg (arrV q))) #[true, true, true, true, true, true, true, true, true, true, true, true, true, true, true, true, false, false, false, false, false, false, false, false, false, false, false, false, false, false] rfl rfl (by kernel_rfl) (fun _ _ _ h => h) (ipm_load (by rfl) 23 (.tmp 3) rfl (w.heap.size + 1) rfl (arrV q) 23 (0, 0) _ hu rfl hiq.out (fun w' h' => h'.2)) hHeld rfl ?_
  simp only [Act.put, List.setIfInBounds_toArray, List.set_cons_zero, List.set_cons_succ]
  refine pure_ (i := 16) (N := some 37) (v := .bool false) (a' := ?_) #[true, true, true, true, true, true, true, true, true, true, true, true, true, true, true, true, true, false, false, false, false, false, false, false, false, false, false, false, false, false] rfl rfl (by kernel_rfl) (fun _ _ _ h => h) (Or.inl ⟨by rfl, ?_⟩) ?_ ?_
  · intro w'
    exact ipm_eq 23 (.tmp 35) (.tmp 36) rfl p q rfl rfl false hc.out (fun _ => by first | rfl | kernel_rfl | go_simp) hu Tryd.underlying22 (fun _ => by kernel_rfl) (fun _ => by kernel_rfl) HP8.out HQ8.out w'
  rotate_left
  · simp only [Act.put, List.setIfInBounds_toArray, List.set_cons_zero, List.set_cons_succ, i64_w, i32_w]
    rfl
  refine pure_ (i := 17) (N := some 38) (v := ?_) (a' := ?_) #[true, true, true, true, true, true, true, true, true, true, true, true, true, true, true, true, true, true, false, false, false, false, false, false, false, false, false, false, false, false] rfl rfl (by kernel_rfl) (fun _ _ _ h => h) (Or.inl ⟨by rfl, ?_⟩) ?_ ?_
  rotate_left
  · intro w'
    go_simp
    with_reducible rfl
  rotate_left
  · simp only [Act.put, List.setIfInBounds_toArray, List.set_cons_zero, List.set_cons_succ, i64_w, i32_w]
    rfl
  refine pure_ (i := 18) (N := some 39) (v := ?_) (a' := ?_) #[true, true, true, true, true, true, true, true, true, true, true, true, true, true, true, true, true, true, true, false, false, false, false, false, false, false, false, false, false, false] rfl rfl (by kernel_rfl) (fun _ _ _ h => h) (Or.inl ⟨by rfl, ?_⟩) ?_ ?_
  rotate_left
  · intro w'
    go_simp
    with_reducible rfl
  rotate_left
  · simp only [Act.put, List.setIfInBounds_toArray, List.set_cons_zero, List.set_cons_succ, i64_w, i32_w]
    rfl
  refine pure_ (i := 19) (N := some 40) (v := ?_) (a' := ?_) #[true, true, true, true, true, true, true, true, true, true, true, true, true, true, true, true, true, true, true, true, false, false, false, false, false, false, false, false, false, false] rfl rfl (by kernel_rfl) (fun _ _ _ h => h) (Or.inl ⟨by rfl, ?_⟩) ?_ ?_
  rotate_left
  · intro w'
    go_simp
    with_reducible rfl
  rotate_left
  · simp only [Act.put, List.setIfInBounds_toArray, List.set_cons_zero, List.set_cons_succ, i64_w, i32_w]
    rfl
  refine pure_ (i := 20) (N := some 41) (v := ?_) (a' := ?_) #[true, true, true, true, true, true, true, true, true, true, true, true, true, true, true, true, true, true, true, true, true, false, false, false, false, false, false, false, false, false] rfl rfl (by kernel_rfl) (fun _ _ _ h => h) (Or.inl ⟨by rfl, ?_⟩) ?_ ?_
  rotate_left
  · intro w'
    go_simp
    with_reducible rfl
  rotate_left
  · simp only [Act.put, List.setIfInBounds_toArray, List.set_cons_zero, List.set_cons_succ, i64_w, i32_w]
    rfl
  refine pure_ (i := 21) (N := some 42) (v := ?_) (a' := ?_) #[true, true, true, true, true, true, true, true, true, true, true, true, true, true, true, true, true, true, true, true, true, true, false, false, false, false, false, false, false, false] rfl rfl (by kernel_rfl) (fun _ _ _ h => h) (Or.inl ⟨by rfl, ?_⟩) ?_ ?_
  rotate_left
  · intro w'
    go_simp
    with_reducible rfl
  rotate_left
  · simp only [Act.put, List.setIfInBounds_toArray, List.set_cons_zero, List.set_cons_succ, i64_w, i32_w]
    rfl
  refine pure_ (i := 22) (N := some 43) (v := ?_) (a' := ?_) #[true, true, true, true, true, true, true, true, true, true, true, true, true, true, true, true, true, true, true, true, true, true, true, false, false, false, false, false, false, false] rfl rfl (by kernel_rfl) (fun _ _ _ h => h) (Or.inl ⟨by rfl, ?_⟩) ?_ ?_
  rotate_left
  · intro w'
    go_simp
    with_reducible rfl
  rotate_left
  · simp only [Act.put, List.setIfInBounds_toArray, List.set_cons_zero, List.set_cons_succ, i64_w, i32_w]
    rfl
  refine pure_ (i := 23) (N := some 44) (v := undef) (a' := ?_) #[true, true, true, true, true, true, true, true, true, true, true, true, true, true, true, true, true, true, true, true, true, true, true, true, false, false, false, false, false, false] rfl rfl (by kernel_rfl) (fun _ _ _ h => h) (Or.inr ⟨by rfl, rfl⟩) ?_ ?_
  rotate_left
  · simp only [Act.put, List.setIfInBounds_toArray, List.set_cons_zero, List.set_cons_succ, i64_w, i32_w]
    rfl
  refine pure_ (i := 24) (N := some 45) (v := undef) (a' := ?_) #[true, true, true, true, true, true, true, true, true, true, true, true, true, true, true, true, true, true, true, true, true, true, true, true, true, false, false, false, false, false] rfl rfl (by kernel_rfl) (fun _ _ _ h => h) (Or.inr ⟨by rfl, rfl⟩) ?_ ?_
  rotate_left
  · simp only [Act.put, List.setIfInBounds_toArray, List.set_cons_zero, List.set_cons_succ, i64_w, i32_w]
    rfl
  refine one_ (i := 25) (N := some 46) #[true, true, true, true, true, true, true, true, true, true, true, true, true, true, true, true, true, true, true, true, true, true, true, true, true, true, false, false, false, false] rfl rfl (by kernel_rfl) (by decide) (fun K hK => ?_)
  refine off_ (by rfl) ?_
  refine hK.out _ _ ⟨HRp_1.out, HRq_1.out⟩ (fun hHeld => ?_)
  clear hK K
  simp only [Act.put, List.setIfInBounds_toArray, List.set_cons_zero, List.set_cons_succ]
  refine pure_ (i := 26) (N := some 47) (v := undef) (a' := ?_) #[true, true, true, true, true, true, true, true, true, true, true, true, true, true, true, true, true, true, true, true, true, true, true, true, true, true, true, false, false, false] rfl rfl (by kernel_rfl) (fun _ _ _ h => h) (Or.inr ⟨by rfl, rfl⟩) ?_ ?_
  rotate_left
  · simp only [Act.put, List.setIfInBounds_toArray, List.set_cons_zero, List.set_cons_succ, i64_w, i32_w]
    rfl
  refine pure_ (i := 27) (N := some 48) (v := ?_) (a' := ?_) #[true, true, true, true, true, true, true, true, true, true, true, true, true, true, true, true, true, true, true, true, true, true, true, true, true, true, true, true, false, false] rfl rfl (by kernel_rfl) (fun _ _ _ h => h) (Or.inl ⟨by rfl, ?_⟩) ?_ ?_
  rotate_left
  · intro w'
    go_simp
    with_reducible rfl
  rotate_left
  · simp only [Act.put, List.setIfInBounds_toArray, List.set_cons_zero, List.set_cons_succ, i64_w, i32_w]
    rfl
  refine pure_ (i := 28) (N := some 49) (v := ?_) (a' := ?_) #[true, true, true, true, true, true, true, true, true, true, true, true, true, true, true, true, true, true, true, true, true, true, true, true, true, true, true, true, true, false] rfl rfl (by kernel_rfl) (fun _ _ _ h => h) (Or.inl ⟨by rfl, ?_⟩) ?_ ?_
  rotate_left
  · intro w'
    go_simp
    with_reducible rfl
  rotate_left
  · simp only [Act.put, List.setIfInBounds_toArray, List.set_cons_zero, List.set_cons_succ, i64_w, i32_w]
    rfl
  refine pure_ (i := 29) (N := some 4) (v := ?_) (a' := ?_) #[true, true, true, true, true, true, true, true, true, true, true, true, true, true, true, true, true, true, true, true, true, true, true, true, true, true, true, true, true, true] rfl rfl (by kernel_rfl) (fun _ _ _ h => h) (Or.inl ⟨by rfl, ?_⟩) ?_ ?_
  rotate_left
  · intro w'
    go_simp
    with_reducible rfl
  rotate_left
  · simp only [Act.put, List.setIfInBounds_toArray, List.set_cons_zero, List.set_cons_succ, i64_w, i32_w]
    rfl
  refine done_ (by kernel_rfl) ?_
  clear hHeld
  go_wp2
  go_ret
  exact ⟨rfl, HB1.out⟩
def sprlaw7_IpKeys.f (k : Nat) (p q : List Int) : Option Bool :=
  (ip_Print6.g k p).bind fun a => (ip_Print6.g k q).bind fun b => if p.length = 8 ∧ q.length = 8 ∧ (a = b → p = q) then some true else none
theorem sprlaw7_IpKeys.mono (p q : List Int) (k : Nat) : LeO (sprlaw7_IpKeys.f k p q) (sprlaw7_IpKeys.f (k + 1) p q) := by
  unfold sprlaw7_IpKeys.f
  exact LeO.bind (ip_Print6.gmono _ k) fun _ => LeO.bind (ip_Print6.gmono _ k) fun _ => LeO.refl _
theorem sprlaw7_IpKeys.calls (k : Nat) (p q : List Int) (r : Bool) (w : World) (h : sprlaw7_IpKeys.f k p q = some r) (hT : Aside0 (r = true)) (hT0 : Own.ipW w) :
    Calls Tryd.prog 3 #[.agg (arrV p), .agg (arrV q)] w fun e w' => e = .returned (.bool r) ∧ Below w.heap.size w w' := by
  unfold sprlaw7_IpKeys.f at h
  obtain ⟨a, ha, h1⟩ := Option.bind_eq_some_iff.1 h
  obtain ⟨b, hb, h2⟩ := Option.bind_eq_some_iff.1 h1
  split at h2
  · rename_i hc
    obtain ⟨hp, hq, hi⟩ := hc
    obtain rfl := Option.some.inj h2
    by_cases he : p = q
    · subst he
      exact sprlaw7_IpKeys.same k p a w hT0 hp ha
    · exact sprlaw7_IpKeys.apart k p q a b w hT0 hp hq he (fun h => he (hi h)) ha hb
  · cases h2


/-! ### sprlaw7_hex: function 11 -/
def sprlaw7_hex.l0 : Nat → ByteArray → ByteArray → Int → Option (ByteArray)
  | 0, _, _, _ => none
  | k + 1, x3, x4, x5 => if x5 > 0 then (if 0 ≤ (Int.tmod x5 16) then (if (Int.tmod x5 16) ≤ (wrap64 ((Int.tmod x5 16) + 1)) then (if (wrap64 ((Int.tmod x5 16) + 1)) ≤ (x3.size : Int) then (if (x3.extract ((Int.tmod x5 16) : Int).toNat ((wrap64 ((Int.tmod x5 16) + 1)) : Int).toNat).size + x4.size ≤ 9223372036854775807 then (sprlaw7_hex.l0 k x3 ((x3.extract ((Int.tmod x5 16) : Int).toNat ((wrap64 ((Int.tmod x5 16) + 1)) : Int).toNat) ++ x4) (wrap64 (Int.tdiv x5 16))) else (none)) else (none)) else (none)) else (none)) else (if x4.toList = ([] : List UInt8) then (if 0 ≤ (Int.tmod x5 16) then (if (Int.tmod x5 16) ≤ (wrap64 ((Int.tmod x5 16) + 1)) then (if (wrap64 ((Int.tmod x5 16) + 1)) ≤ (x3.size : Int) then (if (x3.extract ((Int.tmod x5 16) : Int).toNat ((wrap64 ((Int.tmod x5 16) + 1)) : Int).toNat).size + x4.size ≤ 9223372036854775807 then (sprlaw7_hex.l0 k x3 ((x3.extract ((Int.tmod x5 16) : Int).toNat ((wrap64 ((Int.tmod x5 16) + 1)) : Int).toNat) ++ x4) (wrap64 (Int.tdiv x5 16))) else (none)) else (none)) else (none)) else (none)) else (some x4))
def sprlaw7_hex.f (k : Nat) (a0 : Int) : Option (ByteArray) := sprlaw7_hex.l0 k (⟨#[48, 49, 50, 51, 52, 53, 54, 55, 56, 57, 97, 98, 99, 100, 101, 102]⟩ : ByteArray) (⟨#[]⟩ : ByteArray) (wrap64 (a0))
theorem sprlaw7_hex.mono_l : ∀ k, (∀ y0 y1 y2, LeO (sprlaw7_hex.l0 k y0 y1 y2) (sprlaw7_hex.l0 (k + 1) y0 y1 y2))
  | 0 => fun _ _ _ r h => by simp [sprlaw7_hex.l0] at h
  | k + 1 => by
    have ih0 := sprlaw7_hex.mono_l k
    · intro y0 y1 y2
      unfold sprlaw7_hex.l0
      repeat' first
      | (with_reducible exact ih0 _ _ _)
      | (with_reducible exact LeO.refl _)
      | (with_reducible exact LeO.none _)
      | (with_reducible refine LeO.ite ?_ ?_)
      | (with_reducible refine LeO.bind ?_ (fun _ => ?_))
      | exact ih0 _ _ _
      | exact LeO.none _
      | refine LeO.ite ?_ ?_
      | refine LeO.bind ?_ (fun _ => ?_)
theorem sprlaw7_hex.mono : ∀ a0 k, LeO (sprlaw7_hex.f k a0) (sprlaw7_hex.f (k + 1) a0) := by
  intro a0 k
  have ih0 := sprlaw7_hex.mono_l k
  unfold sprlaw7_hex.f
  repeat' first
      | (with_reducible exact ih0 _ _ _)
      | (with_reducible exact LeO.refl _)
      | (with_reducible exact LeO.none _)
      | (with_reducible refine LeO.ite ?_ ?_)
      | (with_reducible refine LeO.bind ?_ (fun _ => ?_))
      | exact ih0 _ _ _
      | exact LeO.none _
      | refine LeO.ite ?_ ?_
      | refine LeO.bind ?_ (fun _ => ?_)
set_option maxHeartbeats 2000000 in
set_option maxRecDepth 100000 in
theorem sprlaw7_hex.calls (k : Nat) (a0 : Int) (r : ByteArray) (w : World) (h : sprlaw7_hex.f k a0 = some r) :
    Calls Tryd.prog 11 #[.int .u16 a0] w fun e w' => e = .returned (.string r) ∧ Drawn0 w w' := by
  have H : (sprlaw7_hex.l0 k (⟨#[48, 49, 50, 51, 52, 53, 54, 55, 56, 57, 97, 98, 99, 100, 101, 102]⟩ : ByteArray) (⟨#[]⟩ : ByteArray) (wrap64 (a0))) = some r := h
  clear h
  have H' := Aside0.mk H
  clear H
  go_enter Tryd.func11, Tryd.ntmps11
  go_wp2
  go_loopg [4, 5] k (fun kq v4 v5 w' => ∃ (x4_1 : ByteArray) (x5_1 : Int), v4 = .string x4_1 ∧ v5 = .int .i64 x5_1 ∧ Aside0 (sprlaw7_hex.l0 kq (⟨#[48, 49, 50, 51, 52, 53, 54, 55, 56, 57, 97, 98, 99, 100, 101, 102]⟩ : ByteArray) x4_1 x5_1 = some r) ∧ Aside0 (kq ≤ k) ∧ Drawn0 w w')
  case atStart => exact ⟨((⟨#[]⟩ : ByteArray)), (wrap64 (a0)), (by first | rfl | (simp; done) | (simp [*]; done)), (by first | rfl | (simp; done) | (simp [*]; done)), H', ⟨Nat.le_refl _⟩, by repeat (first | exact Drawn0.refl _ | apply Drawn0.step)⟩
  case round =>
    clear H'
    try clear c1
    obtain ⟨x4_1, x5_1, rfl, rfl, HA, HK1, ⟨m1, rfl⟩⟩ := hrel
    cases gk with
    | zero => exact absurd HA.out (by simp [sprlaw7_hex.l0])
    | succ k1 =>
      have H := HA.out
      clear HA
      simp only [sprlaw7_hex.l0] at H
      by_cases c2 : x5_1 > 0
      · rw [if_pos c2] at H
        have c2b0 : decide (0 < x5_1) = true := decide_eq_true c2
        clear c2
        obtain ⟨ji3, hji3⟩ : ∃ j_ : Int, (Int.tmod x5_1 16) = j_ := ⟨_, rfl⟩
        replace H : (if 0 ≤ (ji3) then (if (ji3) ≤ (wrap64 ((ji3) + 1)) then (if (wrap64 ((ji3) + 1)) ≤ ((⟨#[48, 49, 50, 51, 52, 53, 54, 55, 56, 57, 97, 98, 99, 100, 101, 102]⟩ : ByteArray).size : Int) then (if ((⟨#[48, 49, 50, 51, 52, 53, 54, 55, 56, 57, 97, 98, 99, 100, 101, 102]⟩ : ByteArray).extract ((ji3) : Int).toNat ((wrap64 ((ji3) + 1)) : Int).toNat).size + x4_1.size ≤ 9223372036854775807 then (sprlaw7_hex.l0 k1 (⟨#[48, 49, 50, 51, 52, 53, 54, 55, 56, 57, 97, 98, 99, 100, 101, 102]⟩ : ByteArray) (((⟨#[48, 49, 50, 51, 52, 53, 54, 55, 56, 57, 97, 98, 99, 100, 101, 102]⟩ : ByteArray).extract ((ji3) : Int).toNat ((wrap64 ((ji3) + 1)) : Int).toNat) ++ x4_1) (wrap64 (Int.tdiv x5_1 16))) else (none)) else (none)) else (none)) else (none)) = some r := by first | (rw [hji3] at H; exact H) | (simp only [hji3] at H ⊢; exact H)
        by_cases c4 : 0 ≤ (ji3)
        · rw [if_pos c4] at H
          have c4b0 := eq_true c4
          have c4b1 : decide (0 ≤ (ji3)) = true := decide_eq_true c4
          clear c4
          by_cases c5 : (ji3) ≤ (wrap64 ((ji3) + 1))
          · rw [if_pos c5] at H
            have c5b0 := eq_true c5
            have c5b1 : decide ((ji3) ≤ (wrap64 ((ji3) + 1))) = true := decide_eq_true c5
            by_cases c6 : (wrap64 ((ji3) + 1)) ≤ ((⟨#[48, 49, 50, 51, 52, 53, 54, 55, 56, 57, 97, 98, 99, 100, 101, 102]⟩ : ByteArray).size : Int)
            · rw [if_pos c6] at H
              have c6b0 := eq_true c6
              have c6b1 : decide ((wrap64 ((ji3) + 1)) ≤ ((⟨#[48, 49, 50, 51, 52, 53, 54, 55, 56, 57, 97, 98, 99, 100, 101, 102]⟩ : ByteArray).size : Int)) = true := decide_eq_true c6
              (try (have c6y := eq_true (show (wrap64 ((ji3) + 1)) ≤ (16 : Int) from c6)))
              by_cases c7 : ((⟨#[48, 49, 50, 51, 52, 53, 54, 55, 56, 57, 97, 98, 99, 100, 101, 102]⟩ : ByteArray).extract ((ji3) : Int).toNat ((wrap64 ((ji3) + 1)) : Int).toNat).size + x4_1.size ≤ 9223372036854775807
              · rw [if_pos c7] at H
                have c7b0 := eq_true c7
                have c7b1 : decide (((⟨#[48, 49, 50, 51, 52, 53, 54, 55, 56, 57, 97, 98, 99, 100, 101, 102]⟩ : ByteArray).extract ((ji3) : Int).toNat ((wrap64 ((ji3) + 1)) : Int).toNat).size + x4_1.size ≤ 9223372036854775807) = true := decide_eq_true c7
                try have c7b2 : (9223372036854775807 < ((⟨#[48, 49, 50, 51, 52, 53, 54, 55, 56, 57, 97, 98, 99, 100, 101, 102]⟩ : ByteArray).extract ((ji3) : Int).toNat ((wrap64 ((ji3) + 1)) : Int).toNat).size + x4_1.size) = False := eq_false (Nat.not_lt.2 c7)
                (try (have c7y : (9223372036854775807 < ((⟨#[48, 49, 50, 51, 52, 53, 54, 55, 56, 57, 97, 98, 99, 100, 101, 102]⟩ : ByteArray).extract ((ji3) : Int).toNat ((wrap64 ((ji3) + 1)) : Int).toNat).size + x4_1.size) = False := eq_false (by have zz := c7; simp only [ByteArray.size_append, ByteArray.size_extract, Nat.sub_zero] at zz; omega)))
                (try (have c7s := c7; simp [go_sem] at c7s)); (try (have c7z := eq_false (Nat.not_lt.2 c7s)))
                have H' := Aside0.mk H
                clear H
                go_wp2
                go_roundg k1
                case measure => have := HK1.out; omega
                case rel => exact ⟨(((⟨#[48, 49, 50, 51, 52, 53, 54, 55, 56, 57, 97, 98, 99, 100, 101, 102]⟩ : ByteArray).extract ((ji3) : Int).toNat ((wrap64 ((ji3) + 1)) : Int).toNat) ++ x4_1), (wrap64 (Int.tdiv x5_1 16)), (by first | rfl | (simp; done) | (simp only [← hji3] <;> (first | rfl | simp)) | (simp [*]; done)), (by first | rfl | (simp; done) | (simp [*]; done)), H', ⟨by have := HK1.out; omega⟩, by repeat (first | exact Drawn0.refl _ | apply Drawn0.step)⟩
              · rw [if_neg c7] at H
                exact absurd H (by simp)
            · rw [if_neg c6] at H
              exact absurd H (by simp)
          · rw [if_neg c5] at H
            exact absurd H (by simp)
        · rw [if_neg c4] at H
          exact absurd H (by simp)
      · rw [if_neg c2] at H
        have c2b0 : decide (0 < x5_1) = false := decide_eq_false c2
        clear c2
        by_cases c8 : x4_1.toList = ([] : List UInt8)
        · rw [if_pos c8] at H
          have c8b0 : (x4_1.toList == ([] : List UInt8)) = true := beq_iff_eq.mpr c8
          have c8b1 : (x4_1.toList != ([] : List UInt8)) = false := bne_eq_false_iff_eq.mpr c8
          clear c8
          obtain ⟨ji9, hji9⟩ : ∃ j_ : Int, (Int.tmod x5_1 16) = j_ := ⟨_, rfl⟩
          replace H : (if 0 ≤ (ji9) then (if (ji9) ≤ (wrap64 ((ji9) + 1)) then (if (wrap64 ((ji9) + 1)) ≤ ((⟨#[48, 49, 50, 51, 52, 53, 54, 55, 56, 57, 97, 98, 99, 100, 101, 102]⟩ : ByteArray).size : Int) then (if ((⟨#[48, 49, 50, 51, 52, 53, 54, 55, 56, 57, 97, 98, 99, 100, 101, 102]⟩ : ByteArray).extract ((ji9) : Int).toNat ((wrap64 ((ji9) + 1)) : Int).toNat).size + x4_1.size ≤ 9223372036854775807 then (sprlaw7_hex.l0 k1 (⟨#[48, 49, 50, 51, 52, 53, 54, 55, 56, 57, 97, 98, 99, 100, 101, 102]⟩ : ByteArray) (((⟨#[48, 49, 50, 51, 52, 53, 54, 55, 56, 57, 97, 98, 99, 100, 101, 102]⟩ : ByteArray).extract ((ji9) : Int).toNat ((wrap64 ((ji9) + 1)) : Int).toNat) ++ x4_1) (wrap64 (Int.tdiv x5_1 16))) else (none)) else (none)) else (none)) else (none)) = some r := by first | (rw [hji9] at H; exact H) | (simp only [hji9] at H ⊢; exact H)
          by_cases c10 : 0 ≤ (ji9)
          · rw [if_pos c10] at H
            have c10b0 := eq_true c10
            have c10b1 : decide (0 ≤ (ji9)) = true := decide_eq_true c10
            clear c10
            by_cases c11 : (ji9) ≤ (wrap64 ((ji9) + 1))
            · rw [if_pos c11] at H
              have c11b0 := eq_true c11
              have c11b1 : decide ((ji9) ≤ (wrap64 ((ji9) + 1))) = true := decide_eq_true c11
              by_cases c12 : (wrap64 ((ji9) + 1)) ≤ ((⟨#[48, 49, 50, 51, 52, 53, 54, 55, 56, 57, 97, 98, 99, 100, 101, 102]⟩ : ByteArray).size : Int)
              · rw [if_pos c12] at H
                have c12b0 := eq_true c12
                have c12b1 : decide ((wrap64 ((ji9) + 1)) ≤ ((⟨#[48, 49, 50, 51, 52, 53, 54, 55, 56, 57, 97, 98, 99, 100, 101, 102]⟩ : ByteArray).size : Int)) = true := decide_eq_true c12
                (try (have c12y := eq_true (show (wrap64 ((ji9) + 1)) ≤ (16 : Int) from c12)))
                by_cases c13 : ((⟨#[48, 49, 50, 51, 52, 53, 54, 55, 56, 57, 97, 98, 99, 100, 101, 102]⟩ : ByteArray).extract ((ji9) : Int).toNat ((wrap64 ((ji9) + 1)) : Int).toNat).size + x4_1.size ≤ 9223372036854775807
                · rw [if_pos c13] at H
                  have c13b0 := eq_true c13
                  have c13b1 : decide (((⟨#[48, 49, 50, 51, 52, 53, 54, 55, 56, 57, 97, 98, 99, 100, 101, 102]⟩ : ByteArray).extract ((ji9) : Int).toNat ((wrap64 ((ji9) + 1)) : Int).toNat).size + x4_1.size ≤ 9223372036854775807) = true := decide_eq_true c13
                  try have c13b2 : (9223372036854775807 < ((⟨#[48, 49, 50, 51, 52, 53, 54, 55, 56, 57, 97, 98, 99, 100, 101, 102]⟩ : ByteArray).extract ((ji9) : Int).toNat ((wrap64 ((ji9) + 1)) : Int).toNat).size + x4_1.size) = False := eq_false (Nat.not_lt.2 c13)
                  (try (have c13y : (9223372036854775807 < ((⟨#[48, 49, 50, 51, 52, 53, 54, 55, 56, 57, 97, 98, 99, 100, 101, 102]⟩ : ByteArray).extract ((ji9) : Int).toNat ((wrap64 ((ji9) + 1)) : Int).toNat).size + x4_1.size) = False := eq_false (by have zz := c13; simp only [ByteArray.size_append, ByteArray.size_extract, Nat.sub_zero] at zz; omega)))
                  (try (have c13s := c13; simp [go_sem] at c13s)); (try (have c13z := eq_false (Nat.not_lt.2 c13s)))
                  have H' := Aside0.mk H
                  clear H
                  go_wp2
                  go_roundg k1
                  case measure => have := HK1.out; omega
                  case rel => exact ⟨(((⟨#[48, 49, 50, 51, 52, 53, 54, 55, 56, 57, 97, 98, 99, 100, 101, 102]⟩ : ByteArray).extract ((ji9) : Int).toNat ((wrap64 ((ji9) + 1)) : Int).toNat) ++ x4_1), (wrap64 (Int.tdiv x5_1 16)), (by first | rfl | (simp; done) | (simp only [← hji9] <;> (first | rfl | simp)) | (simp [*]; done)), (by first | rfl | (simp; done) | (simp [*]; done)), H', ⟨by have := HK1.out; omega⟩, by repeat (first | exact Drawn0.refl _ | apply Drawn0.step)⟩
                · rw [if_neg c13] at H
                  exact absurd H (by simp)
              · rw [if_neg c12] at H
                exact absurd H (by simp)
            · rw [if_neg c11] at H
              exact absurd H (by simp)
          · rw [if_neg c10] at H
            exact absurd H (by simp)
        · rw [if_neg c8] at H
          have c8b0 : (x4_1.toList == ([] : List UInt8)) = false := beq_eq_false_iff_ne.mpr c8
          have c8b1 : (x4_1.toList != ([] : List UInt8)) = true := bne_iff_ne.mpr c8
          obtain rfl := Option.some.inj H
          go_wp2
          go_ret
          exact ⟨by first | rfl | (simp; done) | (simp [*]; done), by repeat (first | exact Drawn0.refl _ | apply Drawn0.step)⟩

end Go.Proofs.YtldkhokpedfhdaaDoor.K
