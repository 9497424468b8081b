-- Written by a program of this session's (wip/xprint.py), out of the seat's translation.
import Derived.Test.YtldkhokpedfhdaaDoorK0
namespace Go.Proofs.YtldkhokpedfhdaaDoor.K
open Go.RowKit Go.Proofs.YtldkhokpedfhdaaDoorW.PrintWords Go.Proofs.YtldkhokpedfhdaaDoorW.PrintLast Go.Proofs.YtldkhokpedfhdaaDoorW.PrintMore
attribute [local go_sem] max2_int min2_int max_two min_two max_three min_three max_four min_four   -- for this text's walks alone
set_option linter.unusedVariables false
set_option linter.unusedSimpArgs false

/-! ### ip_zeros: function 21 -/
/-! #### arrays of eight numbers as values -/
def arrV (p : List Int) : Array Value := (p.map (Value.int .u16)).toArray
theorem arr_size (p : List Int) : (arrV p).size = p.length := by simp [arrV]
theorem arr_one (p : List Int) : (arrV p).all (·.oneCell') = true := by
  rw [Array.all_eq_true_iff_forall_mem]
  intro v hv
  simp only [arrV, List.mem_toArray, List.mem_map] at hv
  obtain ⟨x, _, rfl⟩ := hv
  rfl
theorem arr_at (p : List Int) (i : Nat) (x : Int) (h : p[i]? = some x) : (arrV p)[i]? = some (.int .u16 x) := by simp [arrV, h]
theorem arr_index {P : Program} {t e : TypeId} {n : Nat} (hu : P.underlying t = some (.array n e)) (hz : ∀ w, (sizeOf e).run P w = .ok 1 w) (ha : ∀ w, (isAgg e).run P w = .ok false w) (A : Array Value) (z : Int) (i : Nat) (hz2 : z = (i : Int)) (hi : i < n) (v : Value) (hA : A[i]? = some v) (w : World) :
    (Instr.index t (.agg A) (.int .i64 z)).run P w = .ok v w := by
  subst hz2
  have h : i < n := hi
  have h2 : (i : Int) < (n : Int) := by omega
  simp [Instr.index, Sem.run_bind, run_underlying hu, asIntOf, h, h2, hz, part, ha, hA]
/-- The first longest run of zeros. -/
def zerosG : List Int → Int → Int → Int → Int → Int × Int
  | [], _, a, m, _ => (a, m)
  | x :: r, i, a, m, n => if x = 0 then (if n + 1 > m then zerosG r (i + 1) (i + 1 - (n + 1)) (n + 1) (n + 1) else zerosG r (i + 1) a m (n + 1)) else (if 0 > m then zerosG r (i + 1) (i + 1) 0 0 else zerosG r (i + 1) a m 0)
theorem arr_nil (n : Nat) : arrV (List.replicate n 0) = (List.replicate n (Value.int .u16 0)).toArray := by simp [arrV]
theorem sliceLo {P : Program} {t e : TypeId} {n : Nat} (hu : P.underlying t = some (.array n e)) (ha : P.arrayLen t = n) (he : P.elem t = e) (hz : ∀ w, (sizeOf e).run P w = .ok 1 w) (B : Nat) (z : Int) (l : Nat) (hz2 : z = (l : Int)) (hl : l ≤ n) :
    ∃ D : Addr, (l < n → D = ⟨B, l, none⟩) ∧ ∀ w, (Instr.sliceAt t (.pointer (some ⟨B, 0, none⟩)) (some (.int .i64 z)) none none).run P w = .ok (.slice (some D) (n - l) (n - l)) w := by
  subst hz2
  refine ⟨if n = l then ⟨B, 0, none⟩ else ⟨B, l, none⟩, fun h => by rw [if_neg (by omega)], fun w => ?_⟩
  rw [run_sliceAt_array_l w t ⟨B, 0, none⟩ (by rw [ha, he]; exact hu) .i64 (l : Int) (by omega) (by rw [ha]; omega), he, hz, ha]
  show Result.ok (slicedAt _ _ _ _ _) w = _
  unfold slicedAt
  rw [Int.toNat_natCast, Nat.mul_one]
  by_cases h : n = l
  · simp [h]
  · simp [h, Addr.add]
    omega
theorem sliceHi {P : Program} {t e : TypeId} {n : Nat} (hu : P.underlying t = some (.array n e)) (ha : P.arrayLen t = n) (he : P.elem t = e) (hz : ∀ w, (sizeOf e).run P w = .ok 1 w) (hn : 0 < n) (B : Nat) (z : Int) (l : Nat) (hz2 : z = (l : Int)) (hl : l ≤ n) (w : World) :
    (Instr.sliceAt t (.pointer (some ⟨B, 0, none⟩)) none (some (.int .i64 z)) none).run P w = .ok (.slice (some ⟨B, 0, none⟩) l n) w := by
  subst hz2
  rw [run_sliceAt_array_h w t ⟨B, 0, none⟩ (by rw [ha, he]; exact hu) .i64 (l : Int) (by omega) (by rw [ha]; omega), he, hz, ha]
  show Result.ok (slicedAt _ _ _ _ _) w = _
  unfold slicedAt
  rw [Int.toNat_natCast, if_neg (by omega)]
  simp [Addr.add]
theorem sliceAll {P : Program} {t e : TypeId} {n : Nat} (hu : P.underlying t = some (.array n e)) (ha : P.arrayLen t = n) (he : P.elem t = e) (hz : ∀ w, (sizeOf e).run P w = .ok 1 w) (hn : 0 < n) (B : Nat) (w : World) :
    (Instr.sliceAt t (.pointer (some ⟨B, 0, none⟩)) none none none).run P w = .ok (.slice (some ⟨B, 0, none⟩) n n) w := by
  rw [run_sliceAt_array_all w t ⟨B, 0, none⟩ (by rw [ha, he]; exact hu), he, hz, ha]
  show Result.ok (slicedAt _ _ _ _ _) w = _
  unfold slicedAt
  rw [if_neg (by omega)]
  simp [Addr.add]
theorem src_of {w : World} {A : Option Addr} {n : Nat} {xs : List Int} {k : IntKind} (h : Kd.C (Kd.int k) w A n xs) (hne : 0 < xs.length) : ∃ ad, A = some ad ∧ ∀ j v, (xs.map (Value.int k))[j]? = some v → w.cell? (ad.add j) = some v := by
  obtain ⟨ad, rfl, hc⟩ := h.2.2 (by have := h.1; omega)
  refine ⟨ad, rfl, fun j v hv => ?_⟩
  rw [List.getElem?_map] at hv
  cases hx : xs[j]? with
  | none => rw [hx] at hv; cases hv
  | some x =>
    rw [hx] at hv
    obtain rfl := Option.some.inj hv
    obtain ⟨cs, hl, hr, hcell⟩ := hc j x hx
    have e : cs = [.int k x] := hr
    have := hcell 0 (.int k x) (by rw [e]; rfl)
    simpa [Kd.int, Kd.scalar] using this
/-- A row of numbers in a block, read from a place on. -/
theorem row_at {w : World} {B : Nat} {t : TypeId} {p : List Int} {k : IntKind} (hrow : w.heap[B]? = some (.cells ((p.map (Value.int k)).toArray) t (0, 0))) (o : Nat) (D : Addr) (hD : o < p.length → D = ⟨B, o, none⟩) (n : Nat) (hn : o + n ≤ p.length) (hm : p.length ≤ 9223372036854775807) : Kd.C (Kd.int k) w (some D) ((p.drop o).take n).length ((p.drop o).take n) := by
  have hlen : ((p.drop o).take n).length = n := by rw [List.length_take, List.length_drop]; omega
  refine ⟨rfl, by omega, fun hne => ?_⟩
  have hpos : 0 < n := by omega
  obtain rfl := hD (by omega)
  refine ⟨_, rfl, fun i y hy => ?_⟩
  have hi : i < n := by have := (List.getElem?_eq_some_iff.1 hy).1; omega
  rw [List.getElem?_take_of_lt hi, List.getElem?_drop] at hy
  refine ⟨[.int k y], rfl, rfl, fun j v hv => ?_⟩
  have hj : j = 0 := by have := (List.getElem?_eq_some_iff.1 hv).1; simp at this; exact this
  subst hj
  obtain rfl : Value.int k y = v := Option.some.inj hv
  show w.cell? ((⟨B, o, none⟩ : Addr).add (i * 1 + 0)) = _
  have e : (⟨B, o, none⟩ : Addr).add (i * 1 + 0) = ⟨B, o + i, none⟩ := by unfold Addr.add; split <;> simp_all
  rw [e, blk_cell hrow (o + i)]
  simp [hy]
theorem results_arr {P : Program} {fn : Func} {p u : Tmp} {ty : TypeId} (h : fn.results = #[.cell p ty, .tmp u]) (tmps : Array Value) (w : World) (g : Nat) (t : TypeId) (cs : Array Value) (fr : Nat × Nat) (d : TypeDesc)
    (hp : tmps.getD p undef = .pointer (some ⟨g, 0, none⟩)) (hg : w.heap[g]? = some (.cells cs t fr))
    (hu : P.underlying ty = some d) (hd : (match d with | .struct _ | .array _ _ => true | _ => false) = true) (hi : (P.info? ty).map (·.size) = some cs.size) :
    (results fn tmps).run P w = .ok (.tuple #[.agg cs, tmps.getD u undef]) w := by
  rw [results_cell_tmp h, hp]
  simp [asAddr, run_loadVar_row w g t ty cs fr d hg hu hd hi, Result.andThen]
theorem copy_arr {P : Program} {w : World} {ops : Array Oper} {rest : List Oper} {o : Oper} {a : Act} {Q : Exit → Act → World → Prop} (hgd : o.guard = none) (d s : Operand) (dT sT : TypeId)
    (ho : o.op = .call { callee := .builtin .copy, args := #[d, s], argTypes := #[dT, sT] }) (elem : TypeId) (hu : P.underlying dT = some (.slice elem)) (hsz : (P.info? elem).map (·.size) = some 1)
    (dp sp : Option Addr) (dLen dCap sLen sCap : Nat) (hd : a.eval d = .slice dp dLen dCap) (hs : a.eval s = .slice sp sLen sCap)
    (g off : Nat) (cur : List Value) (t : TypeId) (hg : w.heap[g]? = some (.cells cur.toArray t (0, 0))) (cs : List Value) (hn : cs.length = Nat.min sLen dLen)
    (hpos : 0 < cs.length → dp = some ⟨g, off, none⟩ ∧ ∃ ad, sp = some ad ∧ ∀ j v, cs[j]? = some v → w.cell? (ad.add j) = some v)
    (hfit : off + cs.length ≤ cur.length) (h1 : ∀ v ∈ cs, v.oneCell' = true)
    (h : ∀ w', w'.heap[g]? = some (.cells (splice cur off cs).toArray t (0, 0)) → (∀ j, j ≠ g → w'.heap[j]? = w.heap[j]?) → (∀ B w0, Below B w0 w → B ≤ g → Below B w0 w') → wpList P ops Q rest (a.put o.dst (goInt cs.length)) w') :
    wpList P ops Q (o :: rest) a w := by
  by_cases h0 : cs.length = 0
  · obtain rfl : cs = [] := List.eq_nil_of_length_eq_zero h0
    refine wpList_copy_nothing hgd d s dT sT ho elem hu hsz dp sp dLen dCap sLen sCap hd hs (by simpa using hn.symm) ?_
    exact h w (by simpa [splice] using hg) (fun _ _ => rfl) (fun _ _ hb _ => hb)
  · obtain ⟨rfl, ad, rfl, hsrc⟩ := hpos (by omega)
    refine wpList_copy_own hgd d s dT sT ho elem hu hsz g off dLen dCap ad sLen sCap hd hs cur.toArray t hg cs hn hsrc (by simpa using hfit) h1 ?_
    exact h _ (by simpa [splice] using setRow_heap w g _ _ t _ hg) (fun j hj => setRow_other _ _ _ _ hj) (fun B w0 hb hB => Go.below_setRow hb hB _)
theorem own_src {w : World} {base : Nat} {v : Value} {xs : List Int} {k : IntKind} {e : TypeId} {ok : Nat → Prop} (hR : Kd.R (Kd.int k) e w base ok v xs) :
    ∃ A c, v = .slice A xs.length c ∧ xs.length ≤ 9223372036854775807 ∧ (0 < xs.length → ∃ ad, A = some ad ∧ base ≤ ad.block ∧ ∀ j v, (xs.map (Value.int k))[j]? = some v → w.cell? (ad.add j) = some v) := by
  have hb := (Kd.R_bound hR).1
  obtain ⟨A, c, rfl, hc, hC⟩ := Kd.R_reads hR
  refine ⟨A, c, rfl, hC.2.1, fun hne => ?_⟩
  obtain ⟨ad, rfl, h⟩ := src_of hC hne
  exact ⟨ad, rfl, (hb ad.block rfl).2.1, h⟩
theorem src_below {w w' : World} {ad : Addr} {cs : List Value} (h : ∀ j v, cs[j]? = some v → w.cell? (ad.add j) = some v) (hb : Below w.heap.size w w') : ∀ j v, cs[j]? = some v → w'.cell? (ad.add j) = some v :=
  fun j v hv => (hb.cell (World.block_lt_of_cell? _ _ (h j v hv))).trans (h j v hv)
theorem src_keep {w w' : World} {ad : Addr} {cs : List Value} {g : Nat} (h : ∀ j v, cs[j]? = some v → w.cell? (ad.add j) = some v) (hk : ∀ j, j ≠ g → w'.heap[j]? = w.heap[j]?) (hg : ad.block ≠ g) : ∀ j v, cs[j]? = some v → w'.cell? (ad.add j) = some v := fun j v hv => by
  have e := h j v hv
  have hblk : (ad.add j).block = ad.block := by unfold Addr.add; split <;> rfl
  unfold World.cell? at e ⊢
  rw [hk (ad.add j).block (by rw [hblk]; exact hg)]
  exact e
theorem arr_splice (p q : List Int) (o : Nat) : splice (p.map (Value.int .u16)) o (q.map (Value.int .u16)) = (splice p o q).map (Value.int .u16) := by simp [splice, List.map_take, List.map_drop]
theorem arr_part {P : Program} {e : TypeId} (ha : ∀ w, (isAgg e).run P w = .ok false w) (A : Array Value) (i : Nat) (v : Value) (h : A[i]? = some v) (w : World) : (part e A i).run P w = .ok v w := by
  unfold part
  rw [Sem.run_bind, ha]
  simp [h]
theorem arr_eq {P : Program} {t e : TypeId} {n : Nat} (hu : P.underlying t = some (.array n e)) (he : P.underlying e = some (.int .u16)) (hz : ∀ w, (sizeOf e).run P w = .ok 1 w) (ha : ∀ w, (isAgg e).run P w = .ok false w) (d : Nat) (p q : List Int) (hp : p.length = n) (hq : q.length = n) (w : World) :
    (Op.equalIn (d + 2) t (.agg (arrV p)) (.agg (arrV q))).run P w = .ok (decide (p = q)) w := by
  rw [Op.equalIn]
  simp only [Sem.run_bind, run_underlying hu, Result.andThen_ok, hz, Nat.mul_one]
  simp only [Std.Legacy.Range.forIn_eq_forIn_range', Std.Legacy.Range.size]
  rw [show (n - 0 + 1 - 1) / 1 = n by omega]
  have key : ∀ (m i : Nat), i + m = n → Sem.run P (forIn (List.range' i m) ((none : Option Bool), ()) fun i __s => do
            let __do_lift ← part e (arrV p) i
            let __do_lift_1 ← part e (arrV q) i
            let __do_lift ← Op.equalIn (d + 1) e __do_lift __do_lift_1
            if (!__do_lift) = true then pure (ForInStep.done (some false, ())) else pure (ForInStep.yield (none, ()))) w
      = .ok (if p.drop i = q.drop i then ((none : Option Bool), ()) else (some false, ())) w := by
    intro m
    induction m with
    | zero =>
      intro i hi
      rw [List.drop_eq_nil_of_le (by omega), List.drop_eq_nil_of_le (by omega)]
      rfl
    | succ m ih =>
      intro i hi
      have h1 : i < p.length := by omega
      have h2 : i < q.length := by omega
      have hd : (p.drop i = q.drop i) = (p[i] = q[i] ∧ p.drop (i + 1) = q.drop (i + 1)) := by rw [List.drop_eq_getElem_cons h1, List.drop_eq_getElem_cons h2, List.cons.injEq]
      rw [List.range'_succ, List.forIn_cons]
      simp only [hd]
      simp only [Sem.run_bind, arr_part ha (arrV p) i _ (arr_at p i _ (List.getElem?_eq_getElem h1)), arr_part ha (arrV q) i _ (arr_at q i _ (List.getElem?_eq_getElem h2)), Result.andThen_ok, run_equalIn_int w d e .u16 .u16 _ _ he]
      by_cases hx : p[i] = q[i]
      · have e1 : (p[i] == q[i]) = true := beq_iff_eq.2 hx
        rw [e1]
        simp only [Bool.not_true, Bool.false_eq_true, if_false, Sem.run_pure, Result.andThen_ok]
        rw [ih (i + 1) (by omega)]
        simp [hx]
      · have e1 : (p[i] == q[i]) = false := beq_eq_false_iff_ne.2 hx
        rw [e1]
        simp [Sem.run_pure, hx]
  rw [key n 0 (by omega)]
  simp only [List.drop_zero, Result.andThen_ok]
  by_cases h : p = q
  · simp [h]
  · simp [h]
set_option maxHeartbeats 2000000 in
set_option maxRecDepth 100000 in
theorem ip_zeros.own (p : List Int) (hp : p.length = 8) (w : World) : Calls Tryd.prog 21 #[.agg (arrV p)] w fun e w' => e = .returned (.tuple #[.int .i64 (zerosG p 0 0 0 0).1, .int .i64 (zerosG p 0 0 0 0).2]) ∧ Below w.heap.size w w' := by
  obtain ⟨A, hA⟩ : ∃ A, A = arrV p := ⟨_, rfl⟩
  rw [← hA]
  have HA := Aside0.mk hA
  clear hA
  have hu := Tryd.underlying23
  have hi : Aside0 ((Tryd.prog.info? 23).map (·.size) = some A.size) := ⟨by rw [HA.out, arr_size, hp]; kernel_rfl⟩
  go_enter Tryd.func21, Tryd.ntmps21
  go_wp2_with (first | ((with_reducible refine gate_dst (N := 9) rfl ?_); refine wpList_load_row rfl 23 (.tmp 1) rfl w.heap.size rfl 23 A (0, 0) _ (blk_new w _) hu rfl hi.out ?_))
  have hb := Aside0.mk (below_alloc (Below.refl w.heap.size w) (.cells A 23))
  go_loopw [4, 5, 6, 10] (fun v4 v5 v6 v10 wr => ∃ (a m n : Int) (i : Nat), v4 = .int .i64 a ∧ v5 = .int .i64 m ∧ v6 = .int .i64 n ∧ v10 = .int .i64 (i : Int) ∧ Aside0 (i ≤ 8) ∧ Aside0 (0 ≤ n ∧ n ≤ i) ∧ Aside0 (0 ≤ m ∧ m ≤ i) ∧ Aside0 (zerosG (p.drop i) (i : Int) a m n = zerosG p 0 0 0 0) ∧ Aside0 (Below w.heap.size w wr)) (fun _ _ _ v10 _ => 8 - (intOf v10).toNat)
  case atStart => exact ⟨0, 0, 0, 0, rfl, rfl, rfl, rfl, ⟨by decide⟩, ⟨by decide⟩, ⟨by decide⟩, ⟨rfl⟩, hb⟩
  case round =>
    clear hb
    obtain ⟨a, m, n, i, rfl, rfl, rfl, rfl, h8, hn, hm, hR, hB⟩ := hrel
    by_cases hlt : i < 8
    · have q1 : decide ((i : Int) < 8) = true := decide_eq_true (by omega)
      obtain ⟨x, hx⟩ : ∃ x, p[i]? = some x := ⟨p[i]'(by omega), List.getElem?_eq_getElem _⟩
      have hidx := arr_index (P := Tryd.prog) (t := 23) (e := 22) (n := 8) Tryd.underlying23 (fun _ => by kernel_rfl) (fun _ => by kernel_rfl) A (i : Int) i rfl hlt _ (by rw [HA.out]; exact arr_at p i x hx)
      have hw1 : wrap64 (n + 1) = n + 1 := by have := hn.out; unfold wrap64; omega
      have hw2 : wrap64 ((i : Int) + 1) = (i : Int) + 1 := by unfold wrap64; omega
      have hd : p.drop i = x :: p.drop (i + 1) := by
        obtain ⟨h1, h2⟩ := List.getElem?_eq_some_iff.1 hx
        rw [List.drop_eq_getElem_cons h1, h2]
      have hR2 := hR.out
      rw [hd] at hR2
      have hn' := hn.out
      have hm' := hm.out
      by_cases hx0 : x = 0
      · subst hx0
        by_cases hg : m < n + 1
        · have q2 : decide (m < n + 1) = true := decide_eq_true hg
          rw [zerosG, if_pos rfl, if_pos hg] at hR2
          have HR2 := Aside0.mk hR2
          clear hR2 hn' hm' hd hx
          go_wp2
          go_roundw
          case measure => simp [intOf]; omega
          case rel =>
            have hn' := hn.out
            have hm' := hm.out
            have e1 : wrap64 ((i : Int) + 1 - (n + 1)) = (i : Int) + 1 - (n + 1) := by unfold wrap64; omega
            exact ⟨(i : Int) + 1 - (n + 1), n + 1, n + 1, i + 1, by first | rfl | rw [e1], by first | rfl | rw [hw1], by first | rfl | rw [hw1], rfl, ⟨by omega⟩, ⟨by omega⟩, ⟨by omega⟩, HR2, hB⟩
        · have q2 : decide (m < n + 1) = false := decide_eq_false hg
          rw [zerosG, if_pos rfl, if_neg hg] at hR2
          have HR2 := Aside0.mk hR2
          clear hR2 hn' hm' hd hx
          go_wp2
          go_roundw
          case measure => simp [intOf]; omega
          case rel =>
            have hn' := hn.out
            have hm' := hm.out
            exact ⟨a, m, n + 1, i + 1, rfl, rfl, by first | rfl | rw [hw1], rfl, ⟨by omega⟩, ⟨by omega⟩, ⟨by omega⟩, HR2, hB⟩
      · have q2 : decide (m < 0) = false := decide_eq_false (by omega)
        have q3 : (x != 0) = true := bne_iff_ne.2 hx0
        rw [zerosG, if_neg hx0, if_neg (by omega)] at hR2
        have HR2 := Aside0.mk hR2
        clear hR2 hn' hm' hd hx hx0
        go_wp2
        go_roundw
        case measure => simp [intOf]; omega
        case rel =>
          have hm' := hm.out
          exact ⟨a, m, 0, i + 1, rfl, rfl, rfl, rfl, ⟨by omega⟩, ⟨by omega⟩, ⟨by omega⟩, HR2, hB⟩
    · have q1 : decide ((i : Int) < 8) = false := decide_eq_false (by omega)
      have hR2 := hR.out
      rw [List.drop_eq_nil_of_le (by omega), zerosG] at hR2
      have HR2 := Aside0.mk hR2
      clear hR2
      go_wp2
      refine bodyPost_ret (results_tmp2 rfl _ _ _) rfl ?_
      exact ⟨by rw [← HR2.out]; rfl, hB.out⟩


/-! ### strings_Join: function 34 -/
theorem spot_none {w : World} {a : Addr} {v : Value} (h : w.cell? a = some v) : a.spot = none := by
  unfold World.cell? at h
  split at h
  · split at h
    · cases h
    · rename_i hs
      cases hq : a.spot with
      | none => rfl
      | some x => rw [hq] at hs; simp at hs
  · cases h
def strings_Join.f (l0 : List ByteArray) (a1 : ByteArray) : Option (ByteArray) :=
  if l0.length ≤ 140737488355328 ∧ (Lib.join (l0.map (·.data.toList)) a1.data.toList).length ≤ 140737488355328 then some ⟨(Lib.join (l0.map (·.data.toList)) a1.data.toList).toArray⟩ else none
theorem strings_Join.calls (A0 : Option Addr) (c0 : Nat) (l0 : List ByteArray) (a1 : ByteArray) (r : ByteArray) (w : World) (hr0 : Kd.C Kd.string w A0 l0.length l0) (hc0 : l0.length ≤ c0) (h : strings_Join.f l0 a1 = some r) :
    Calls Tryd.prog 34 #[.slice A0 l0.length c0, .string a1] w fun e w' => e = .returned (.string r) ∧ Below w.heap.size w w' := by
  unfold strings_Join.f at h
  split at h
  · rename_i h1
    obtain ⟨h1, h2⟩ := h1
    obtain rfl := Option.some.inj h
    cases l0 with
    | nil => exact (Tryd.strings_Join_none A0 c0 a1 w).mono fun e w' ⟨he, hw⟩ => ⟨he, hw ▸ Below.refl _ _⟩
    | cons x t =>
      obtain ⟨ad, rfl, hc⟩ := hr0.2.2 (by simp)
      have hcell : ∀ (j : Nat) (y : ByteArray), (x :: t)[j]? = some y → w.cell? (ad.add j) = some (.string y) := by
        intro j y hy
        obtain ⟨cs, hl, hr, hcell⟩ := hc j y hy
        have e : cs = [.string y] := hr
        have := hcell 0 (.string y) (by rw [e]; rfl)
        simpa [Kd.string, Kd.scalar] using this
      have h0 := hcell 0 x rfl
      have hs : ad.spot = none := by have := spot_none h0; simpa [Addr.add] using this
      obtain ⟨bk, o, sp⟩ := ad
      obtain rfl : sp = none := hs
      refine Tryd.strings_Join bk o c0 (x :: t) a1 w (fun j y hy => ?_) (by have := World.block_lt_of_cell? w _ h0; simpa [Addr.add] using this) h1 hc0 h2
      rw [← hcell j y hy]
      congr 1
      unfold Addr.add
      split <;> simp_all
  · cases h


/-! ### strconv_FormatUint: function 37 -/
set_option maxHeartbeats 1000000 in
theorem ip_zeros (w : World) (t : TypeId) : Own.BytesAt (w.alloc (.cells (Array.replicate 65 (Value.int .u8 0)) t)) w.heap.size (List.replicate 65 0) := by
  have h0 : (w.alloc (.cells (Array.replicate 65 (Value.int .u8 0)) t)).heap[w.heap.size]? = some (.cells (Array.replicate 65 (Value.int .u8 0)) t (0, 0)) := blk_new w _
  refine ⟨by rw [World.size_alloc]; omega, fun j hj => ?_, fun j hj => ?_⟩
  · rw [List.length_replicate] at hj
    rw [blk_cell h0 j, Array.getElem?_eq_getElem (by simpa using hj)]
    have e : ∀ z : UInt8, z = 0 → (Value.int IntKind.u8 0) = Value.int IntKind.u8 ((z.toNat : Nat) : Int) := fun z hz => by subst hz; rfl
    rw [Array.getElem_replicate]
    exact congrArg some (e _ (List.getElem_replicate (by simpa using hj)))
  · unfold World.frozen?
    rw [h0]
    simp
theorem ip_and15 (m : Nat) : bits BinOp.and IntKind.u64 (m : Int) 15 = ((m % 16 : Nat) : Int) := by
  unfold bits
  simp
  have e : m % 2 ^ IntKind.u64.bits &&& 15 % 2 ^ IntKind.u64.bits = m % 16 := by
    show m % 2 ^ 64 &&& 15 = m % 16
    rw [show (15 : Nat) = 2 ^ 4 - 1 from rfl, Nat.and_two_pow_sub_one_eq_mod]
    omega
  rw [e]
  show (((m % 16 : Nat) : Int) % 18446744073709551616) = _
  omega
theorem ip_dig : ∀ (d : Nat) (h : d < 36) (h16 : d < 16), ((⟨#[48, 49, 50, 51, 52, 53, 54, 55, 56, 57, 97, 98, 99, 100, 101, 102, 103, 104, 105, 106, 107, 108, 109, 110, 111, 112, 113, 114, 115, 116, 117, 118, 119, 120, 121, 122]⟩ : ByteArray)[d]'h) = Own.hexD d := by decide +kernel
theorem ip_dropset {α : Type} (l : List α) (i : Nat) (x : α) (h : i < l.length) : (l.set i x).drop i = x :: l.drop (i + 1) := by
  rw [List.drop_eq_getElem_cons (by rw [List.length_set]; exact h), List.getElem_set_self, List.drop_set_of_lt (by omega)]
theorem ip_sliceAt {P : Program} {t e : TypeId} {n : Nat} (hu : P.underlying t = some (.array n e)) (ha : P.arrayLen t = n) (he : P.elem t = e) (hz : ∀ w, (sizeOf e).run P w = .ok 1 w) (w : World) (B : Nat) (z : Int) (l : Nat) (hz2 : z = (l : Int)) (hl : l < n) :
    (Instr.sliceAt t (.pointer (some ⟨B, 0, none⟩)) (some (.int .i64 z)) none none).run P w = .ok (.slice (some ⟨B, l, none⟩) (n - l) (n - l)) w := by
  subst hz2
  rw [run_sliceAt_array_l w t ⟨B, 0, none⟩ (by rw [ha, he]; exact hu) .i64 (l : Int) (by omega) (by rw [ha]; omega), he, hz, ha]
  show Result.ok (slicedAt _ _ _ _ _) w = _
  unfold slicedAt
  rw [Int.toNat_natCast, if_neg (by omega), Nat.mul_one]
  simp [Addr.add]
  omega
theorem ip_off {w : World} {B : Nat} {l : List UInt8} (h : Own.BytesAt w B l) (i j : Nat) (hj : j < (l.drop i).length) : w.cell? ((⟨B, i, none⟩ : Addr).add j) = some (.int .u8 ((l.drop i)[j].toNat : Int)) := by
  rw [List.getElem_drop, ← h.cell (i + j) (by rw [List.length_drop] at hj; omega)]
  congr 1
  unfold Addr.add
  split <;> simp_all
theorem ip_tz64 (w : World) (hT : Own.ipW w) : Calls Tryd.prog 82 #[.int .u64 16] w fun e w' => e = .returned (.int .i64 4) ∧ w' = w := by
  have hc := Own.tab_cell hT.2.1 (g := 3) (by kernel_rfl) 15 4 (by kernel_rfl)
  have hx : IntKind.u64.wrap (bits BinOp.and IntKind.u64 16 (IntKind.u64.wrap (-16)) * 285870213051353865) / 288230376151711744 = 15 := by decide +kernel
  go_enter Tryd.func82, Tryd.ntmps82
  go_wp2
  go_ret
  exact ⟨rfl, rfl⟩
theorem ip_tz (w : World) (hT : Own.ipW w) : Calls Tryd.prog 76 #[.int .u64 16] w fun e w' => e = .returned (.int .i64 4) ∧ w' = w := by
  go_enter Tryd.func76, Tryd.ntmps76
  go_wp2_with (go_at_call 82; (with_reducible refine (ip_tz64 w hT).mono ?_); rintro e w' ⟨rfl, rfl⟩)
  go_ret
  exact ⟨rfl, rfl⟩
theorem ip_pow2 (w : World) : Calls Tryd.prog 75 #[.int .i64 16] w fun e w' => e = .returned (.bool true) ∧ w' = w := by
  have hx : (bits BinOp.and IntKind.i64 16 15 == 0) = true := by decide +kernel
  go_enter Tryd.func75, Tryd.ntmps75
  go_wp2
  go_ret
  exact ⟨rfl, rfl⟩
set_option maxHeartbeats 2000000 in
set_option maxRecDepth 100000 in
theorem ip_fbits (n : Nat) (hn : n < 18446744073709551616) (w : World) (hT : Own.ipW w) : Calls Tryd.prog 62 #[.slice none 0 0, .int .u64 (n : Int), .int .i64 16, .bool false, .bool false] w fun e w' => e = .returned (.tuple #[.slice none 0 0, .string ⟨(Own.hexT 16 n []).toArray⟩]) ∧ Below w.heap.size w w' := by
  have h1 := fun w => ip_pow2 w
  have HT := Aside0.mk hT
  go_enter Tryd.func62, Tryd.ntmps62
  go_wp2_with (first | (go_at_call 75; (with_reducible refine (h1 _).mono ?_); rintro e w' ⟨rfl, rfl⟩) | (go_at_call 76; (with_reducible refine (ip_tz _ (Own.ipW_below HT.out (below_alloc (Below.refl _ _) _))).mono ?_); rintro e w' ⟨rfl, rfl⟩))
  have hb0 : Aside0 (Own.BytesAt (w.alloc (.cells (Array.replicate 65 (Value.int .u8 0)) 97)) w.heap.size (List.replicate 65 0)) := ⟨ip_zeros w _⟩
  have hw0 : Aside0 (Below w.heap.size w (w.alloc (.cells (Array.replicate 65 (Value.int .u8 0)) 97))) := ⟨below_alloc (Below.refl _ _) _⟩
  clear h1 HT
  go_loopw [1, 13] (fun u i wr => ∃ (m f : Nat) (l : List UInt8), u = .int .u64 (m : Int) ∧ i = .int .i64 ((49 + f : Nat) : Int) ∧ f ≤ 16 ∧ Aside0 (1 ≤ f) ∧ Aside0 (l.length = 65) ∧ Aside0 (m < 16 ^ f) ∧ Aside0 (Own.hexT f m (l.drop (49 + f)) = Own.hexT 16 n []) ∧ Aside0 (Own.BytesAt wr w.heap.size l) ∧ Aside0 (Below w.heap.size w wr)) (fun u _ _ => (intOf u).toNat)
  case atStart => exact ⟨n, 16, List.replicate 65 0, rfl, rfl, Nat.le_refl _, ⟨by decide⟩, ⟨rfl⟩, ⟨hn⟩, ⟨rfl⟩, hb0, hw0⟩
  case round =>
    clear hb0 hw0
    obtain ⟨m, f, l, rfl, rfl, hf, hf1, hl, hm, hR, hB, hW⟩ := hrel
    have hcell := hB.out.cell (48 + f) (by have := hl.out; have := hf; omega)
    have hfr := hB.out.free (48 + f) (by have := hl.out; omega)
    have p3 := eq_true (show (0 : Int) ≤ (49 + (f : Int) - 1) by omega)
    have p4 := eq_true (show (49 + (f : Int) - 1) < 65 by omega)
    have p5 := eq_true (show (49 + (f : Int) - 1) ≤ 65 by omega)
    by_cases hge : 16 ≤ m
    · have q1 : decide ((16 : Int) ≤ (m : Int)) = true := decide_eq_true (by omega)
      obtain ⟨d, hd⟩ : ∃ d, d = m % 16 := ⟨_, rfl⟩
      have hx : bits BinOp.and IntKind.u64 (m : Int) 15 = (d : Int) := by rw [hd]; exact ip_and15 m
      have p1 := eq_true (show (0 : Int) ≤ (d : Int) by omega)
      have p2 := eq_true (show (d : Int) < 36 by omega)
      have HD := Aside0.mk hd
      clear hd
      go_wp2
      go_roundw
      case measure => simp [intOf]; omega
      case rel =>
        have hl' := hl.out
        have hf1' := hf1.out
        obtain ⟨g, rfl⟩ : ∃ g, f = g + 1 := ⟨f - 1, by omega⟩
        refine ⟨m / 16, g, l.set (48 + (g + 1)) _, by rw [show (m : Int) / 16 = ((m / 16 : Nat) : Int) by omega], by congr 1; omega, by omega, ⟨?_⟩, ⟨by rw [List.length_set]; exact hl'⟩, ⟨?_⟩, ⟨?_⟩, ⟨hB.out.set (48 + (g + 1)) (by omega) _⟩, ⟨hW.out.setCell (Nat.le_refl _) _⟩⟩
        · cases g with
          | zero => have := hm.out; omega
          | succ g => omega
        · have := hm.out
          rw [Nat.pow_succ] at this
          omega
        · rw [← hR.out, Own.hexT.eq_2, if_neg (by omega), ip_dig _ _ (by have := HD.out; omega), ← HD.out]
          congr 1
          rw [show 49 + g = 48 + (g + 1) by omega, show 49 + (g + 1) = 48 + (g + 1) + 1 by omega]
          exact ip_dropset l (48 + (g + 1)) _ (by omega)
    · have q1 : decide ((16 : Int) ≤ (m : Int)) = false := decide_eq_false (by omega)
      obtain ⟨L, hL⟩ : ∃ L, L = l.set (48 + f) (Own.hexD m) := ⟨_, rfl⟩
      have hv := ip_dig m (by omega) (by omega)
      have hB2 := Aside0.mk (hL ▸ hB.out.set (48 + f) (by have := hl.out; omega) (Own.hexD m) : Own.BytesAt (wr.setCell ⟨w.heap.size, 48 + f, none⟩ (.int .u8 ((Own.hexD m).toNat : Int))) w.heap.size L)
      have hsl := fun w' => ip_sliceAt (P := Tryd.prog) (t := 97) (e := 5) (n := 65) (by kernel_rfl) (by kernel_rfl) (by kernel_rfl) (fun _ => by kernel_rfl) w' w.heap.size (49 + (f : Int) - 1) (48 + f) (by omega) (by omega)
      have hback := run_convert_bytes_back (P := Tryd.prog) (wr.setCell ⟨w.heap.size, 48 + f, none⟩ (.int .u8 ((Own.hexD m).toNat : Int))) 40 9 5 ⟨w.heap.size, 48 + f, none⟩ (65 - (48 + f)) (L.drop (48 + f)) Tryd.underlying40 Tryd.underlying5 Tryd.underlying9 (fun j hj => ip_off hB2.out (48 + f) j hj)
      have hLl : (L.drop (48 + f)).length = 65 - (48 + f) := by rw [List.length_drop, hL, List.length_set, hl.out]
      rw [hLl] at hback
      have hR2 : L.drop (48 + f) = Own.hexT 16 n [] := by
        have hf1' := hf1.out
        obtain ⟨g, rfl⟩ : ∃ g, f = g + 1 := ⟨f - 1, by omega⟩
        rw [← hR.out, Own.hexT.eq_2, if_pos (by omega), hL]
        rw [show 49 + (g + 1) = 48 + (g + 1) + 1 by omega]
        exact ip_dropset l (48 + (g + 1)) _ (by have := hl.out; omega)
      rw [hR2] at hback
      clear hL hLl hR2
      go_wp2
      refine bodyPost_ret (results_tmp2 rfl _ _ _) rfl ?_
      exact ⟨rfl, hW.out.setCell (Nat.le_refl _) _⟩
theorem ip_fmtI (n : Nat) (hn : n < 18446744073709551616) (w : World) (hT : Own.ipW w) : Calls Tryd.prog 51 #[.int .u64 (n : Int), .int .i64 16] w fun e w' => e = .returned (.string ⟨(Own.hexT 16 n []).toArray⟩) ∧ Below w.heap.size w w' := by
  have h1 := ip_fbits n hn w hT
  go_enter Tryd.func51, Tryd.ntmps51
  go_wp2_with (go_at_call 62; (with_reducible refine h1.mono ?_); rintro e w' ⟨rfl, hb⟩)
  go_ret
  exact ⟨rfl, hb⟩
theorem strconv_FormatUint.own (n : Nat) (hn : n < 18446744073709551616) (w : World) (hT : Own.ipW w) : Calls Tryd.prog 37 #[.int .u64 (n : Int), .int .i64 16] w fun e w' => e = .returned (.string ⟨(Own.hexT 16 n []).toArray⟩) ∧ Below w.heap.size w w' := by
  have h1 := ip_fmtI n hn w hT
  go_enter Tryd.func37, Tryd.ntmps37
  go_wp2_with (go_at_call 51; (with_reducible refine h1.mono ?_); rintro e w' ⟨rfl, hb⟩)
  go_ret
  exact ⟨rfl, hb⟩
def strconv_FormatUint.f (a0 : Int) (a1 : Int) : Option ByteArray := if 0 ≤ a0 ∧ a0 < 18446744073709551616 ∧ a1 = 16 then some ⟨(Own.hexT 16 a0.toNat []).toArray⟩ else none
theorem strconv_FormatUint.calls (a0 : Int) (a1 : Int) (r : ByteArray) (w : World) (h : strconv_FormatUint.f a0 a1 = some r) (hT0 : Own.ipW w) :
    Calls Tryd.prog 37 #[.int .u64 a0, .int .i64 a1] w fun e w' => e = .returned (.string r) ∧ Below w.heap.size w w' := by
  unfold strconv_FormatUint.f at h
  split at h
  · rename_i h0
    obtain rfl := Option.some.inj h
    obtain ⟨h1, h2, rfl⟩ := h0
    have e : a0 = (a0.toNat : Int) := by omega
    rw [e]
    exact strconv_FormatUint.own a0.toNat (by omega) w hT0
  · cases h


/-! ### ip_text: function 22 -/
def ip_text.l0 : Nat → List ByteArray → List Int → Int → Int → Option (ByteArray)
  | 0, _, _, _, _ => none
  | k + 1, x3, x6, x7, x8 => if x8 < x7 then (if 0 ≤ x8 then (if x8 < (x6.length : Int) then ((strconv_FormatUint.f (IntKind.u64.wrap (rd x6 x8)) 16).bind fun t102 => (if x3.length < 8796093022208 then (ip_text.l0 k (x3 ++ [t102]) x6 x7 (wrap64 (x8 + 1))) else (none))) else (none)) else (none)) else ((strings_Join.f x3 (⟨#[58]⟩ : ByteArray)).bind fun t106 => (some t106))
def ip_text.f (k : Nat) (l0 : List Int) : Option (ByteArray) := ip_text.l0 k ([] : List ByteArray) l0 (l0.length : Int) 0
theorem ip_text.mono_l : ∀ k, (∀ y0 y1 y2 y3, LeO (ip_text.l0 k y0 y1 y2 y3) (ip_text.l0 (k + 1) y0 y1 y2 y3))
  | 0 => fun _ _ _ _ r h => by simp [ip_text.l0] at h
  | k + 1 => by
    have ih0 := ip_text.mono_l k
    · intro y0 y1 y2 y3
      unfold ip_text.l0
      repeat' first
      | (with_reducible exact ih0 _ _ _ _)
      | (with_reducible exact LeO.refl _)
      | (with_reducible exact LeO.none _)
      | (with_reducible refine LeO.ite ?_ ?_)
      | (with_reducible refine LeO.bind ?_ (fun _ => ?_))
      | exact ih0 _ _ _ _
      | exact LeO.none _
      | refine LeO.ite ?_ ?_
      | refine LeO.bind ?_ (fun _ => ?_)
theorem ip_text.mono : ∀ a0 k, LeO (ip_text.f k a0) (ip_text.f (k + 1) a0) := by
  intro a0 k
  have ih0 := ip_text.mono_l k
  unfold ip_text.f
  repeat' first
      | (with_reducible exact ih0 _ _ _ _)
      | (with_reducible exact LeO.refl _)
      | (with_reducible exact LeO.none _)
      | (with_reducible refine LeO.ite ?_ ?_)
      | (with_reducible refine LeO.bind ?_ (fun _ => ?_))
      | exact ih0 _ _ _ _
      | exact LeO.none _
      | refine LeO.ite ?_ ?_
      | refine LeO.bind ?_ (fun _ => ?_)
set_option maxHeartbeats 2000000 in
set_option maxRecDepth 100000 in
theorem ip_text.calls (k : Nat) (A0 : Option Addr) (c0 : Nat) (l0 : List Int) (r : ByteArray) (w : World) (hr0 : Kd.C (Kd.int .u16) w A0 l0.length l0) (hc0 : l0.length ≤ c0) (h : ip_text.f k l0 = some r) (hT0 : Own.ipW w) :
    Calls Tryd.prog 22 #[.slice A0 l0.length c0] w fun e w' => e = .returned (.string r) ∧ Below w.heap.size w w' := by
  have HT0 := Aside0.mk hT0
  clear hT0
  have HR0 := Aside0.mk hr0
  have HC0 := Aside0.mk hc0
  clear hr0 hc0
  have HB := Aside0.mk (Below.refl w.heap.size w)
  have H : (ip_text.l0 k ([] : List ByteArray) l0 (l0.length : Int) 0) = some r := h
  clear h
  have H' := Aside0.mk H
  clear H
  go_enter Tryd.func22, Tryd.ntmps22
  go_wp2
  go_loopg [3, 8] k (fun kq v3 v8 w' => ∃ (x3_1 : List ByteArray) (x8_1 : Int), v8 = .int .i64 x8_1 ∧ Aside0 (ip_text.l0 kq x3_1 l0 (l0.length : Int) x8_1 = some r) ∧ Aside0 (kq ≤ k) ∧ Aside0 (Kd.R Kd.string 9 w' w.heap.size (fun _ => True) v3 x3_1) ∧ Aside0 (Below w.heap.size w w'))
  case atStart => exact ⟨(([] : List ByteArray)), (0), (by first | rfl | (simp; done) | (simp [*]; done)), H', ⟨Nat.le_refl _⟩, ⟨by first | exact Kd.R_nil _ _ _ _ _ | exact Kd.N_nil _ _ _ _ _ | exact Kd.V_nil _ _ _ _ _ | exact Kd.Q_nil _ _ _ _ _ | exact Kd.S_nil _ _ _ _ _⟩, ⟨by repeat (first | (with_reducible first | exact HB.out | apply below_alloc | apply pw_below_drewN | apply below_drew1) | exact HB.out)⟩⟩
  case round =>
    clear H'
    obtain ⟨x3_1, x8_1, rfl, HA, HK1, HO_3, HB⟩ := hrel
    cases gk with
    | zero => exact absurd HA.out (by simp [ip_text.l0])
    | succ k1 =>
      have H := HA.out
      clear HA
      simp only [ip_text.l0] at H
      by_cases c2 : x8_1 < (l0.length : Int)
      · rw [if_pos c2] at H
        have c2b0 : decide (x8_1 < (l0.length : Int)) = true := decide_eq_true c2
        clear c2
        by_cases c3 : 0 ≤ x8_1
        · rw [if_pos c3] at H
          have c3b0 : decide (0 ≤ x8_1) = true := decide_eq_true c3
          clear c3
          by_cases c4 : x8_1 < (l0.length : Int)
          · rw [if_pos c4] at H
            have c4b0 : decide (x8_1 < (l0.length : Int)) = true := decide_eq_true c4
            clear c4
            replace H := Option.bind_eq_some_iff.mp H
            obtain ⟨t102, A50, H⟩ := H
            replace H : (if x3_1.length < 8796093022208 then (ip_text.l0 k1 (x3_1 ++ [t102]) l0 (l0.length : Int) (wrap64 (x8_1 + 1))) else (none)) = some r := H
            have A5 := Aside0.mk A50
            clear A50
            by_cases c6 : x3_1.length < 8796093022208
            · rw [if_pos c6] at H
              have LMc6 := Aside0.mk c6
              clear c6
              obtain ⟨y103, hy103⟩ : ∃ y_ : List ByteArray, y_ = (x3_1 ++ [t102]) := ⟨_, rfl⟩
              replace H : (ip_text.l0 k1 y103 l0 (l0.length : Int) (wrap64 (x8_1 + 1))) = some r := by first | (rw [hy103]; with_reducible exact H) | (have H2_ := (Option.bind_some _ _).symm.trans H; rw [hy103]; with_reducible exact H2_) | (have H2_ := (Option.bind_some _ _).symm.trans H; with_reducible exact H2_) | with_reducible exact H | (rw [hy103]; exact H) | exact H
              have Ny103 := Aside0.mk hy103
              clear hy103
              have H' := Aside0.mk H
              clear H
              have p101 : 0 ≤ (x8_1 : Int) := of_decide_eq_true (by first | (with_reducible assumption) | assumption)
              have q101 : x8_1 < (l0.length : Int) := of_decide_eq_true (by first | (with_reducible assumption) | assumption)
              obtain ⟨ad101, e101, hx101_0⟩ := Kd.at_int HR0.out x8_1 p101 q101
              cases e101
              replace hx101_0 := (HB.out.cell (World.block_lt_of_cell? w _ hx101_0)).trans hx101_0
              replace p101 := eq_true p101
              replace q101 := eq_true q101
              go_wp2_with (first | ((with_reducible refine gate_callee (f := 37) rfl ?_); refine goesL_ (some 15) rfl rfl Tryd.func37 (by kernel_rfl) rfl #[.int .u64 (IntKind.u64.wrap (rd l0 x8_1)), .int .i64 16] rfl (by (try simp only [List.map_toArray, List.map_cons, List.map_nil]); first | done | rfl | (simp only [List.length_drop, List.length_take]; rfl)) ?_; (with_reducible refine (strconv_FormatUint.calls (IntKind.u64.wrap (rd l0 x8_1)) 16 t102 _ A5.out (Own.ipW_below HT0.out (by repeat (first | (with_reducible first | exact HB.out | apply below_alloc | apply pw_below_drewN | apply below_drew1) | exact HB.out)))).mono ?_); rintro e w7 ⟨rfl, hb⟩; refine ⟨_, rfl, ?_⟩; have n0_ := Aside0.mk (Kd.R_below (by (with_reducible repeat (first | apply Kd.R_alloc | apply Kd.R_drewN | apply Kd.R_drew)); exact HO_3.out) hb); have n1_ := Aside0.mk (below_step (by repeat (first | (with_reducible first | exact HB.out | apply below_alloc | apply pw_below_drewN | apply below_drew1) | exact HB.out)) hb); clear HO_3; clear HB; have HO_3 := n0_; have HB := n1_; clear n0_ n1_; (try clear hb); (try clear hb2); (try clear hk); (try clear hi)) | ((with_reducible refine gate_builtin (b := .append) (xs := #[.tmp 12, .tmp 16]) rfl ?_); at_builtin; refine Kd.R_append Kd.string (w0 := w) w.heap.size rfl (.tmp 12) (.tmp 16) 51 9 (.string ⟨#[]⟩) 16 rfl Tryd.underlying51 info9 rfl (by decide) (by omega) u3 x3_1 t102 [.string t102] (fun _ => True) (fun _ => False) rfl rfl ?aP (fun _ hk => hk.elim) ?aF ?aO ?aB ?aS ?aL ?_; (case aP => exact rfl); (case aB => exact (by repeat (first | (with_reducible first | exact HB.out | apply below_alloc | apply pw_below_drewN | apply below_drew1) | exact HB.out))); (case aF => exact (fun _ _ => trivial)); (case aO => exact (by (with_reducible repeat (first | apply Kd.R_alloc | apply Kd.R_drewN | apply Kd.R_drew)); exact HO_3.out)); (case aS => exact (below_size (by repeat (first | (with_reducible first | exact HB.out | apply below_alloc | apply pw_below_drewN | apply below_drew1) | exact HB.out)))); (case aL => have := LMc6.out; omega); intro v104 w8 ho hb hg hat; rw [← Ny103.out] at ho; have n0_ := Aside0.mk (hb); have n1_ := Aside0.mk (ho); clear HB; clear HO_3; have HB := n0_; have HO105 := n1_; clear n0_ n1_; clear ho hb hg hat))
              go_roundg k1
              case measure => have := HK1.out; omega
              case rel => exact ⟨(y103), (wrap64 (x8_1 + 1)), (by first | rfl | (simp; done) | (simp [*]; done)), H', ⟨by have := HK1.out; omega⟩, ⟨by (with_reducible repeat (first | apply Kd.R_alloc | apply Kd.R_drewN | apply Kd.R_drew)); exact HO105.out⟩, ⟨by repeat (first | (with_reducible first | exact HB.out | apply below_alloc | apply pw_below_drewN | apply below_drew1) | exact HB.out)⟩⟩
            · rw [if_neg c6] at H
              exact absurd H (by simp)
          · rw [if_neg c4] at H
            exact absurd H (by simp)
        · rw [if_neg c3] at H
          exact absurd H (by simp)
      · rw [if_neg c2] at H
        have c2b0 : decide (x8_1 < (l0.length : Int)) = false := decide_eq_false c2
        clear c2
        replace H := Option.bind_eq_some_iff.mp H
        obtain ⟨t106, A90, H⟩ := H
        replace H : (some t106) = some r := H
        have A9 := Aside0.mk A90
        clear A90
        obtain rfl := Option.some.inj H
        obtain ⟨Ao10, co10, eo10⟩ := Kd.R_slice HO_3.out
        subst eo10
        go_wp2_with (first | ((with_reducible refine gate_callee (f := 34) rfl ?_); refine goesL_ (some 20) rfl rfl Tryd.func34 (by kernel_rfl) rfl #[.slice Ao10 x3_1.length co10, .string (⟨#[58]⟩ : ByteArray)] rfl (by (try simp only [List.map_toArray, List.map_cons, List.map_nil]); first | done | rfl | (simp only [List.length_drop, List.length_take]; rfl)) ?_; (with_reducible refine (strings_Join.calls _ _ x3_1 (⟨#[58]⟩ : ByteArray) t106 _ ?side1 ?side2 A9.out).mono ?_); (case side1 => repeat (first | exact (Kd.R_reads' HO_3.out).2.2 | (with_reducible refine Kd.C_alloc ?_ _) | (with_reducible refine Kd.C_drewN ?_ _) | (with_reducible refine Kd.C_drew ?_))); (case side2 => exact (Kd.R_reads' HO_3.out).2.1); rintro e w11 ⟨rfl, hb⟩; refine ⟨_, rfl, ?_⟩; have n0_ := Aside0.mk (Kd.R_below (by (with_reducible repeat (first | apply Kd.R_alloc | apply Kd.R_drewN | apply Kd.R_drew)); exact HO_3.out) hb); have n1_ := Aside0.mk (below_step (by repeat (first | (with_reducible first | exact HB.out | apply below_alloc | apply pw_below_drewN | apply below_drew1) | exact HB.out)) hb); clear HO_3; clear HB; have HO_3 := n0_; have HB := n1_; clear n0_ n1_; (try clear hb); (try clear hb2); (try clear hk); (try clear hi)))
        go_ret
        exact ⟨by first | rfl | (simp [errW_none, errW_some] <;> rfl) | (simp [*, errW_none, errW_some] <;> rfl), by repeat (first | (with_reducible first | exact HB.out | apply below_alloc | apply pw_below_drewN | apply below_drew1) | exact HB.out)⟩

/-! ### ip_Print6: function 10 -/
theorem zerosG_rng : ∀ (p : List Int) (i a m n : Int), 0 ≤ a → 0 ≤ m → 0 ≤ n → n ≤ i → a + m ≤ i → 0 ≤ (zerosG p i a m n).1 ∧ 0 ≤ (zerosG p i a m n).2 ∧ (zerosG p i a m n).1 + (zerosG p i a m n).2 ≤ i + p.length
  | [], i, a, m, n, h1, h2, h3, h4, h5 => by simp only [zerosG, List.length_nil]; omega
  | x :: r, i, a, m, n, h1, h2, h3, h4, h5 => by
    unfold zerosG
    rw [List.length_cons]
    split
    · split
      · have := zerosG_rng r (i + 1) (i + 1 - (n + 1)) (n + 1) (n + 1) (by omega) (by omega) (by omega) (by omega) (by omega); omega
      · have := zerosG_rng r (i + 1) a m (n + 1) (by omega) (by omega) (by omega) (by omega) (by omega); omega
    · split
      · omega
      · have := zerosG_rng r (i + 1) a m 0 (by omega) (by omega) (by omega) (by omega) (by omega); omega
def ip_Print6.g (k : Nat) (p : List Int) : Option ByteArray :=
  if p.length = 8 then (if (zerosG p 0 0 0 0).2 < 2 then ip_text.f k p else
    (ip_text.f k (p.take (zerosG p 0 0 0 0).1.toNat)).bind fun a => (ip_text.f k (p.drop ((zerosG p 0 0 0 0).1 + (zerosG p 0 0 0 0).2).toNat)).bind fun b =>
      if a.size + 2 + b.size ≤ 9223372036854775807 then some ((a ++ ⟨#[58, 58]⟩) ++ b) else none) else none
theorem ip_Print6.gmono (p : List Int) (k : Nat) : LeO (ip_Print6.g k p) (ip_Print6.g (k + 1) p) := by
  unfold ip_Print6.g
  exact LeO.ite (LeO.ite (ip_text.mono _ k) (LeO.bind (ip_text.mono _ k) fun _ => LeO.bind (ip_text.mono _ k) fun _ => LeO.refl _)) (LeO.none _)

set_option maxHeartbeats 2000000 in
set_option maxRecDepth 100000 in
theorem ip_Print6.way_whole (k : Nat) (p : List Int) (hp : p.length = 8) (w : World) (hT : Own.ipW w) (r : ByteArray) (hlt : (zerosG p 0 0 0 0).2 < 2) (h : ip_text.f k p = some r) :
    Calls Tryd.prog 10 #[.agg (arrV p)] w fun e w' => e = .returned (.string r) ∧ Below w.heap.size w w' := by
  have hrng := zerosG_rng p 0 0 0 0 (by decide) (by decide) (by decide) (by decide) (by decide)
  have hz := fun w' => ip_zeros.own p hp w'
  generalize (zerosG p 0 0 0 0).1 = at_ at *
  generalize (zerosG p 0 0 0 0).2 = n at *
  have hp8 : (p.length : Int) = 8 := by omega
  rw [hp8] at hrng
  obtain ⟨A, hA⟩ : ∃ A, A = arrV p := ⟨_, rfl⟩
  rw [← hA]
  simp only [← hA] at hz
  have hu := Tryd.underlying23
  have hi : Aside0 ((Tryd.prog.info? 23).map (·.size) = some A.size) := ⟨by rw [hA, arr_size, hp]; kernel_rfl⟩
  have HT := Aside0.mk hT
  obtain ⟨w0, hw0⟩ : ∃ w0, w0 = w.alloc (.cells A 23) := ⟨_, rfl⟩
  have HB0 : Aside0 (Below w.heap.size w w0) := ⟨by rw [hw0]; exact below_alloc (Below.refl _ _) _⟩
  have HZ0 : Aside0 (w0.heap[w.heap.size]? = some (.cells A 23 (0, 0))) := ⟨by rw [hw0]; exact blk_new _ _⟩
  have HA := Aside0.mk hA
  clear hA hp8
  have q0 : decide (n < 2) = true := decide_eq_true hlt
  have hsl := fun w' => sliceAll (P := Tryd.prog) (t := 23) (e := 22) (n := 8) (by kernel_rfl) (by kernel_rfl) (by kernel_rfl) (fun _ => by kernel_rfl) (by decide) w.heap.size w'
  have hl8 : ((p.drop 0).take 8) = p := by rw [List.drop_zero, List.take_of_length_le (by omega)]
  have T0 := Aside0.mk trivial
  go_enter Tryd.func10, Tryd.ntmps10

  go_wp2_with (first | ((with_reducible refine gate_dst (N := 6) rfl ?_); rw [← hw0]; clear hw0; refine wpList_load_row rfl 23 (.tmp 1) rfl w.heap.size rfl 23 A (0, 0) _ HZ0.out hu rfl hi.out ?_) | (clear T0; go_at_call 21; (with_reducible refine (hz _).mono ?_); rintro e w1 ⟨rfl, hb⟩; have HZ1 : Aside0 (w1.heap[w.heap.size]? = some (Obj.cells ((p.map (Value.int .u16)).toArray) 23 (0, 0))) := ⟨by rw [blk_below HZ0.out hb, HA.out]; rfl⟩; have HB1 := Aside0.mk (HB0.out.trans (hb.mono HB0.out.size)); clear hb HZ0 HB0; have T1 := Aside0.mk trivial) | (clear T1; go_at_call 22; have z := (row_at (k := .u16) (p := p) HZ1.out 0 ⟨w.heap.size, 0, none⟩ (fun _ => rfl) 8 (by omega) (by omega)); rw [hl8, hp] at z; have z2 := ip_text.calls k (some ⟨w.heap.size, 0, none⟩) 8 p r _ (hp ▸ z) (by omega) h (Own.ipW_below HT.out HB1.out); rw [hp] at z2; (with_reducible refine z2.mono ?_); rintro e w2 ⟨rfl, hb⟩; have HB2 := Aside0.mk (HB1.out.trans (hb.mono HB1.out.size)); clear z z2 hb))
  go_ret
  exact ⟨rfl, HB2.out⟩

set_option maxHeartbeats 2000000 in
set_option maxRecDepth 100000 in
theorem ip_Print6.way_cut (k : Nat) (p : List Int) (hp : p.length = 8) (w : World) (hT : Own.ipW w) (a b : ByteArray) (hlt : ¬ (zerosG p 0 0 0 0).2 < 2) (ha : ip_text.f k (p.take (zerosG p 0 0 0 0).1.toNat) = some a) (hb : ip_text.f k (p.drop ((zerosG p 0 0 0 0).1 + (zerosG p 0 0 0 0).2).toNat) = some b) (hab : a.size + 2 + b.size ≤ 9223372036854775807) :
    Calls Tryd.prog 10 #[.agg (arrV p)] w fun e w' => e = .returned (.string ((a ++ ⟨#[58, 58]⟩) ++ b)) ∧ Below w.heap.size w w' := by
  have hrng := zerosG_rng p 0 0 0 0 (by decide) (by decide) (by decide) (by decide) (by decide)
  have hz := fun w' => ip_zeros.own p hp w'
  generalize (zerosG p 0 0 0 0).1 = at_ at *
  generalize (zerosG p 0 0 0 0).2 = n at *
  have hp8 : (p.length : Int) = 8 := by omega
  rw [hp8] at hrng
  obtain ⟨A, hA⟩ : ∃ A, A = arrV p := ⟨_, rfl⟩
  rw [← hA]
  simp only [← hA] at hz
  have hu := Tryd.underlying23
  have hi : Aside0 ((Tryd.prog.info? 23).map (·.size) = some A.size) := ⟨by rw [hA, arr_size, hp]; kernel_rfl⟩
  have HT := Aside0.mk hT
  obtain ⟨w0, hw0⟩ : ∃ w0, w0 = w.alloc (.cells A 23) := ⟨_, rfl⟩
  have HB0 : Aside0 (Below w.heap.size w w0) := ⟨by rw [hw0]; exact below_alloc (Below.refl _ _) _⟩
  have HZ0 : Aside0 (w0.heap[w.heap.size]? = some (.cells A 23 (0, 0))) := ⟨by rw [hw0]; exact blk_new _ _⟩
  have HA := Aside0.mk hA
  clear hA hp8
  have q0 : decide (n < 2) = false := decide_eq_false hlt
  have hsl1 := fun w' => sliceHi (P := Tryd.prog) (t := 23) (e := 22) (n := 8) (by kernel_rfl) (by kernel_rfl) (by kernel_rfl) (fun _ => by kernel_rfl) (by decide) w.heap.size at_ at_.toNat (by omega) (by omega) w'
  have hwa : wrap64 (at_ + n) = at_ + n := by unfold wrap64; omega
  obtain ⟨D, hD0, hsl2⟩ := sliceLo (P := Tryd.prog) (t := 23) (e := 22) (n := 8) (by kernel_rfl) (by kernel_rfl) (by kernel_rfl) (fun _ => by kernel_rfl) w.heap.size (at_ + n) (at_ + n).toNat (by omega) (by omega)
  have hD := Aside0.mk hD0
  have ht1 : (p.take at_.toNat).length = at_.toNat := by rw [List.length_take]; omega
  have ht2 : (p.drop (at_ + n).toNat).length = 8 - (at_ + n).toNat := by rw [List.length_drop]; omega
  have b1 : (9223372036854775807 < a.size + 2) = False := eq_false (by omega)
  have b2 : (9223372036854775807 < (a ++ (⟨#[58, 58]⟩ : ByteArray)).size + b.size) = False := eq_false (by have : (a ++ (⟨#[58, 58]⟩ : ByteArray)).size = a.size + 2 := ByteArray.size_append; omega)
  have b3 : (9223372036854775807 < a.size + 2 + b.size) = False := eq_false (by omega)
  have hst : Aside0 (0 ≤ at_ ∧ 0 ≤ n ∧ at_ + n ≤ 8) := ⟨by omega⟩
  have hA1 := Aside0.mk ha
  have hB1 := Aside0.mk hb
  have hT1 := Aside0.mk ht1
  have hT2 := Aside0.mk ht2
  clear hD0 ha hb ht1 ht2 hrng
  have T0 := Aside0.mk trivial
  go_enter Tryd.func10, Tryd.ntmps10

  go_wp2_with (first | ((with_reducible refine gate_dst (N := 6) rfl ?_); rw [← hw0]; clear hw0; refine wpList_load_row rfl 23 (.tmp 1) rfl w.heap.size rfl 23 A (0, 0) _ HZ0.out hu rfl hi.out ?_) | (clear T0; go_at_call 21; (with_reducible refine (hz _).mono ?_); rintro e w1 ⟨rfl, hb⟩; have HZ1 : Aside0 (w1.heap[w.heap.size]? = some (Obj.cells ((p.map (Value.int .u16)).toArray) 23 (0, 0))) := ⟨by rw [blk_below HZ0.out hb, HA.out]; rfl⟩; have HB1 := Aside0.mk (HB0.out.trans (hb.mono HB0.out.size)); clear hb HZ0 HB0; have T1 := Aside0.mk trivial))
  go_wp2_with fail
  have n_HB1 := Aside0.mk (below_drew1 HB1.out); have n_HZ1 := Aside0.mk (blk_drew HZ1.out); clear HB1 HZ1; have HB1 := n_HB1; have HZ1 := n_HZ1; clear n_HB1 n_HZ1
  refine start_ (n := 11) (S := fun _ => True) (ds := []) #[false, false, false, false, false, false, false, false, false, false, false] (by kernel_rfl) rfl rfl trivial (fun hHeld => ?_)
  generalize World.drew _ = wd at HB1 HZ1 ⊢
  refine pure_ (i := 0) (N := some 14) (v := ?_) (a' := ?_) #[true, false, false, false, false, false, false, false, false, false, false] rfl rfl (by kernel_rfl) (fun _ _ _ h => h) (Or.inl ⟨by rfl, ?_⟩) ?_ ?_
  rotate_left
  · intro w'
    go_simp
    with_reducible rfl
  rotate_left
  · simp only [Act.put, List.setIfInBounds_toArray, List.set_cons_zero, List.set_cons_succ, i64_w, i32_w]
    rfl
  refine pure_ (i := 1) (N := some 15) (v := ?_) (a' := ?_) #[true, true, false, false, false, false, false, false, false, false, false] rfl rfl (by kernel_rfl) (fun _ _ _ h => h) (Or.inl ⟨by rfl, ?_⟩) ?_ ?_
  rotate_left
  · intro w'
    go_simp
    with_reducible rfl
  rotate_left
  · simp only [Act.put, List.setIfInBounds_toArray, List.set_cons_zero, List.set_cons_succ, i64_w, i32_w]
    rfl
  refine pure_ (i := 4) (N := some 18) (v := ?_) (a' := ?_) #[true, true, false, false, true, false, false, false, false, false, false] rfl rfl (by kernel_rfl) (fun _ _ _ h => h) (Or.inl ⟨by rfl, ?_⟩) ?_ ?_
  rotate_left
  · intro w'
    go_simp
    with_reducible rfl
  rotate_left
  · simp only [Act.put, List.setIfInBounds_toArray, List.set_cons_zero, List.set_cons_succ, i64_w, i32_w]
    rfl
  refine pure_ (i := 5) (N := some 19) (v := ?_) (a' := ?_) #[true, true, false, false, true, true, false, false, false, false, false] rfl rfl (by kernel_rfl) (fun _ _ _ h => h) (Or.inl ⟨by rfl, ?_⟩) ?_ ?_
  rotate_left
  · intro w'
    go_simp
    with_reducible rfl
  rotate_left
  · simp only [Act.put, List.setIfInBounds_toArray, List.set_cons_zero, List.set_cons_succ, i64_w, i32_w]
    rfl
  refine pure_ (i := 6) (N := some 20) (v := ?_) (a' := ?_) #[true, true, false, false, true, true, true, false, false, false, false] rfl rfl (by kernel_rfl) (fun _ _ _ h => h) (Or.inl ⟨by rfl, ?_⟩) ?_ ?_
  rotate_left
  · intro w'
    go_simp
    with_reducible rfl
  rotate_left
  · simp only [Act.put, List.setIfInBounds_toArray, List.set_cons_zero, List.set_cons_succ, i64_w, i32_w]
    rfl
  refine pure_ (i := 7) (N := some 21) (v := ?_) (a' := ?_) #[true, true, false, false, true, true, true, true, false, false, false] rfl rfl (by kernel_rfl) (fun _ _ _ h => h) (Or.inl ⟨by rfl, ?_⟩) ?_ ?_
  rotate_left
  · intro w'
    go_simp
    with_reducible rfl
  rotate_left
  · simp only [Act.put, List.setIfInBounds_toArray, List.set_cons_zero, List.set_cons_succ, i64_w, i32_w]
    rfl
  have z1 := ip_text.calls k (some ⟨w.heap.size, 0, none⟩) 8 (p.take at_.toNat) a wd (by have z := (row_at (k := .u16) (p := p) HZ1.out 0 ⟨w.heap.size, 0, none⟩ (fun _ => rfl) at_.toNat (by have := hst.out; omega) (by omega)); rw [List.drop_zero] at z; exact z) (by have := hT1.out; have := hst.out; omega) hA1.out (Own.ipW_below HT.out HB1.out)
  rw [hT1.out] at z1
  refine one_ (i := 2) (N := some 16) #[true, true, true, false, true, true, true, true, false, false, false] rfl rfl (by kernel_rfl) (by decide) (fun K hK => ?_)
  refine goes_ Tryd.func22 (by kernel_rfl) rfl #[.slice (some ⟨w.heap.size, 0, none⟩) at_.toNat 8] (by rfl) rfl rfl (by first | rfl | (simp only [List.map_toArray, List.map_cons, List.map_nil]; rfl)) ?_
  with_reducible refine (z1).mono ?_
  rintro e w2 ⟨rfl, hb⟩
  refine ⟨_, rfl, ?_⟩
  have n_HB1 := Aside0.mk (below_step HB1.out hb); have n_HZ1 := Aside0.mk (blk_below HZ1.out hb); clear HB1 HZ1; have HB1 := n_HB1; have HZ1 := n_HZ1; clear n_HB1 n_HZ1
  clear hb
  refine hK.out _ _ trivial (fun hHeld => ?_)
  clear hK K
  simp only [Act.put, List.setIfInBounds_toArray, List.set_cons_zero, List.set_cons_succ]
  clear z1
  refine pure_ (i := 3) (N := some 17) (v := ?_) (a' := ?_) #[true, true, true, true, true, true, true, true, false, false, false] rfl rfl (by kernel_rfl) (fun _ _ _ h => h) (Or.inl ⟨by rfl, ?_⟩) ?_ ?_
  rotate_left
  · intro w'
    go_simp
    with_reducible rfl
  rotate_left
  · simp only [Act.put, List.setIfInBounds_toArray, List.set_cons_zero, List.set_cons_succ, i64_w, i32_w]
    rfl
  have z2 := ip_text.calls k (some D) (8 - (at_ + n).toNat) (p.drop (at_ + n).toNat) b w2 (by have z := (row_at (k := .u16) (p := p) HZ1.out (at_ + n).toNat D (fun h => hD.out (by omega)) (8 - (at_ + n).toNat) (by have := hst.out; omega) (by omega)); rw [List.take_of_length_le (by rw [hT2.out]; omega)] at z; exact z) (by rw [hT2.out]; omega) hB1.out (Own.ipW_below HT.out HB1.out)
  rw [hT2.out] at z2
  refine one_ (i := 8) (N := some 22) #[true, true, true, true, true, true, true, true, true, false, false] rfl rfl (by kernel_rfl) (by decide) (fun K hK => ?_)
  refine goes_ Tryd.func22 (by kernel_rfl) rfl #[.slice (some D) (8 - (at_ + n).toNat) (8 - (at_ + n).toNat)] (by rfl) rfl rfl (by first | rfl | (simp only [List.map_toArray, List.map_cons, List.map_nil]; rfl)) ?_
  with_reducible refine (z2).mono ?_
  rintro e w3 ⟨rfl, hb⟩
  refine ⟨_, rfl, ?_⟩
  have n_HB1 := Aside0.mk (below_step HB1.out hb); have n_HZ1 := Aside0.mk (blk_below HZ1.out hb); clear HB1 HZ1; have HB1 := n_HB1; have HZ1 := n_HZ1; clear n_HB1 n_HZ1
  clear hb
  refine hK.out _ _ trivial (fun hHeld => ?_)
  clear hK K
  simp only [Act.put, List.setIfInBounds_toArray, List.set_cons_zero, List.set_cons_succ]
  clear z2
  refine pure_ (i := 9) (N := some 23) (v := ?_) (a' := ?_) #[true, true, true, true, true, true, true, true, true, true, false] rfl rfl (by kernel_rfl) (fun _ _ _ h => h) (Or.inl ⟨by rfl, ?_⟩) ?_ ?_
  rotate_left
  · intro w'
    go_simp
    with_reducible rfl
  rotate_left
  · simp only [Act.put, List.setIfInBounds_toArray, List.set_cons_zero, List.set_cons_succ, i64_w, i32_w]
    rfl
  refine pure_ (i := 10) (N := some 2) (v := ?_) (a' := ?_) #[true, true, true, true, true, true, true, true, true, true, true] rfl rfl (by kernel_rfl) (fun _ _ _ h => h) (Or.inl ⟨by rfl, ?_⟩) ?_ ?_
  rotate_left
  · intro w'
    go_simp
    with_reducible rfl
  rotate_left
  · simp only [Act.put, List.setIfInBounds_toArray, List.set_cons_zero, List.set_cons_succ, i64_w, i32_w]
    rfl
  refine done_ (by kernel_rfl) ?_
  clear hHeld
  go_wp2
  go_ret
  exact ⟨rfl, HB1.out⟩
theorem ip_Print6.gcalls (k : Nat) (p : List Int) (r : ByteArray) (w : World) (h : ip_Print6.g k p = some r) (hT0 : Own.ipW w) :
    Calls Tryd.prog 10 #[.agg (arrV p)] w fun e w' => e = .returned (.string r) ∧ Below w.heap.size w w' := by
  unfold ip_Print6.g at h
  split at h
  · rename_i hp
    split at h
    · rename_i hlt
      exact ip_Print6.way_whole k p hp w hT0 r hlt h
    · rename_i hlt
      obtain ⟨a, ha, h⟩ := Option.bind_eq_some_iff.1 h
      obtain ⟨b, hb, h⟩ := Option.bind_eq_some_iff.1 h
      split at h
      · rename_i hab
        obtain rfl := Option.some.inj h
        exact ip_Print6.way_cut k p hp w hT0 a b hlt ha hb hab
      · cases h
  · cases h


/-! ### strings_Cut: function 23 -/
def strings_Cut.f (a0 : ByteArray) (a1 : ByteArray) : Option (ByteArray × ByteArray × Bool) :=
  if a0.size < 4294967281 then some (⟨(Lib.cut a0.data.toList a1.data.toList).1.toArray⟩, ⟨(Lib.cut a0.data.toList a1.data.toList).2.1.toArray⟩, (Lib.cut a0.data.toList a1.data.toList).2.2) else none
theorem strings_Cut.calls (a0 : ByteArray) (a1 : ByteArray) (r1 : ByteArray) (r2 : ByteArray) (r3 : Bool) (w : World) (h : strings_Cut.f a0 a1 = some (r1, r2, r3)) (hT0 : Own.ipW w) :
    Calls Tryd.prog 23 #[.string a0, .string a1] w fun e w' => e = .returned (.tuple #[.string r1, .string r2, .bool r3]) ∧ Below w.heap.size w w' := by
  unfold strings_Cut.f at h
  obtain ⟨⟨m, hm⟩, _, _⟩ := hT0
  split at h
  · rename_i h1
    have e := Option.some.inj h
    rw [Prod.mk.injEq, Prod.mk.injEq] at e
    obtain ⟨rfl, rfl, rfl⟩ := e
    exact (Tryd.strings_Cut a0 a1 m w h1 hm).mono fun e w' ⟨he, n, hw⟩ => ⟨he, hw ▸ pw_below_drewN (Below.refl _ _) n⟩
  · cases h


/-! ### strings_IndexByte: function 40 -/
def strings_IndexByte.f (a0 : ByteArray) (a1 : Int) : Option (Int) := some (Lib.indexByte a0.data.toList a1.toNat.toUInt8)
theorem strings_IndexByte.calls (a0 : ByteArray) (a1 : Int) (r : Int) (w : World) (h : strings_IndexByte.f a0 a1 = some r) :
    Calls Tryd.prog 40 #[.string a0, .int .u8 a1] w fun e w' => e = .returned (.int .i64 r) ∧ Drawn0 w w' := by
  obtain rfl := Option.some.inj h
  exact (Tryd.strings_IndexByte a0 a1 w).mono fun e w' ⟨he, hw⟩ => ⟨he, hw ▸ Drawn0.refl _⟩


/-! ### ip_digit: function 45 -/
def ip_digit.f (a0 : Int) : Option (Int) := if a0 ≥ 65 then (if a0 ≤ 70 then ((strings_IndexByte.f (⟨#[48, 49, 50, 51, 52, 53, 54, 55, 56, 57, 97, 98, 99, 100, 101, 102]⟩ : ByteArray) ((a0 + 32) % 256)).bind fun t107 => (some t107)) else ((strings_IndexByte.f (⟨#[48, 49, 50, 51, 52, 53, 54, 55, 56, 57, 97, 98, 99, 100, 101, 102]⟩ : ByteArray) a0).bind fun t108 => (some t108))) else ((strings_IndexByte.f (⟨#[48, 49, 50, 51, 52, 53, 54, 55, 56, 57, 97, 98, 99, 100, 101, 102]⟩ : ByteArray) a0).bind fun t109 => (some t109))
set_option maxHeartbeats 2000000 in
set_option maxRecDepth 100000 in
theorem ip_digit.calls (a0 : Int) (r : Int) (w : World) (h : ip_digit.f a0 = some r) :
    Calls Tryd.prog 45 #[.int .u8 a0] w fun e w' => e = .returned (.int .i64 r) ∧ Drawn0 w w' := by
  have H : (if a0 ≥ 65 then (if a0 ≤ 70 then ((strings_IndexByte.f (⟨#[48, 49, 50, 51, 52, 53, 54, 55, 56, 57, 97, 98, 99, 100, 101, 102]⟩ : ByteArray) ((a0 + 32) % 256)).bind fun t107 => (some t107)) else ((strings_IndexByte.f (⟨#[48, 49, 50, 51, 52, 53, 54, 55, 56, 57, 97, 98, 99, 100, 101, 102]⟩ : ByteArray) a0).bind fun t108 => (some t108))) else ((strings_IndexByte.f (⟨#[48, 49, 50, 51, 52, 53, 54, 55, 56, 57, 97, 98, 99, 100, 101, 102]⟩ : ByteArray) a0).bind fun t109 => (some t109))) = some r := h
  clear h
  by_cases c2 : a0 ≥ 65
  · rw [if_pos c2] at H
    have c2b0 : decide (65 ≤ a0) = true := decide_eq_true c2
    clear c2
    by_cases c3 : a0 ≤ 70
    · rw [if_pos c3] at H
      have c3b0 : decide (a0 ≤ 70) = true := decide_eq_true c3
      clear c3
      replace H := Option.bind_eq_some_iff.mp H
      obtain ⟨t107, A40, H⟩ := H
      replace H : (some t107) = some r := H
      have A4 := Aside0.mk A40
      clear A40
      obtain rfl := Option.some.inj H
      go_enter Tryd.func45, Tryd.ntmps45
      go_wp2_with (first | ((with_reducible refine gate_callee (f := 40) rfl ?_); refine goesL_ (some 12) rfl rfl Tryd.func40 (by kernel_rfl) rfl #[.string (⟨#[48, 49, 50, 51, 52, 53, 54, 55, 56, 57, 97, 98, 99, 100, 101, 102]⟩ : ByteArray), .int .u8 ((a0 + 32) % 256)] rfl (by (try simp only [List.map_toArray, List.map_cons, List.map_nil]); first | done | rfl | (simp only [List.length_drop, List.length_take]; rfl)) ?_; (with_reducible refine (strings_IndexByte.calls (⟨#[48, 49, 50, 51, 52, 53, 54, 55, 56, 57, 97, 98, 99, 100, 101, 102]⟩ : ByteArray) ((a0 + 32) % 256) t107 _ A4.out).mono ?_); rintro e w' ⟨rfl, ⟨nd, rfl⟩⟩; refine ⟨_, rfl, ?_⟩))
      go_ret
      exact ⟨by first | rfl | (simp; done) | (simp [*]; done), by repeat (first | exact Drawn0.refl _ | apply Drawn0.step)⟩
    · rw [if_neg c3] at H
      have c3b0 : decide (a0 ≤ 70) = false := decide_eq_false c3
      clear c3
      replace H := Option.bind_eq_some_iff.mp H
      obtain ⟨t108, A50, H⟩ := H
      replace H : (some t108) = some r := H
      have A5 := Aside0.mk A50
      clear A50
      obtain rfl := Option.some.inj H
      go_enter Tryd.func45, Tryd.ntmps45
      go_wp2_with (first | ((with_reducible refine gate_callee (f := 40) rfl ?_); refine goesL_ (some 12) rfl rfl Tryd.func40 (by kernel_rfl) rfl #[.string (⟨#[48, 49, 50, 51, 52, 53, 54, 55, 56, 57, 97, 98, 99, 100, 101, 102]⟩ : ByteArray), .int .u8 a0] rfl (by (try simp only [List.map_toArray, List.map_cons, List.map_nil]); first | done | rfl | (simp only [List.length_drop, List.length_take]; rfl)) ?_; (with_reducible refine (strings_IndexByte.calls (⟨#[48, 49, 50, 51, 52, 53, 54, 55, 56, 57, 97, 98, 99, 100, 101, 102]⟩ : ByteArray) a0 t108 _ A5.out).mono ?_); rintro e w' ⟨rfl, ⟨nd, rfl⟩⟩; refine ⟨_, rfl, ?_⟩))
      go_ret
      exact ⟨by first | rfl | (simp; done) | (simp [*]; done), by repeat (first | exact Drawn0.refl _ | apply Drawn0.step)⟩
  · rw [if_neg c2] at H
    have c2b0 : decide (65 ≤ a0) = false := decide_eq_false c2
    clear c2
    replace H := Option.bind_eq_some_iff.mp H
    obtain ⟨t109, A60, H⟩ := H
    replace H : (some t109) = some r := H
    have A6 := Aside0.mk A60
    clear A60
    obtain rfl := Option.some.inj H
    go_enter Tryd.func45, Tryd.ntmps45
    go_wp2_with (first | ((with_reducible refine gate_callee (f := 40) rfl ?_); refine goesL_ (some 12) rfl rfl Tryd.func40 (by kernel_rfl) rfl #[.string (⟨#[48, 49, 50, 51, 52, 53, 54, 55, 56, 57, 97, 98, 99, 100, 101, 102]⟩ : ByteArray), .int .u8 a0] rfl (by (try simp only [List.map_toArray, List.map_cons, List.map_nil]); first | done | rfl | (simp only [List.length_drop, List.length_take]; rfl)) ?_; (with_reducible refine (strings_IndexByte.calls (⟨#[48, 49, 50, 51, 52, 53, 54, 55, 56, 57, 97, 98, 99, 100, 101, 102]⟩ : ByteArray) a0 t109 _ A6.out).mono ?_); rintro e w' ⟨rfl, ⟨nd, rfl⟩⟩; refine ⟨_, rfl, ?_⟩))
    go_ret
    exact ⟨by first | rfl | (simp; done) | (simp [*]; done), by repeat (first | exact Drawn0.refl _ | apply Drawn0.step)⟩

end Go.Proofs.YtldkhokpedfhdaaDoor.K
