/-
The row of the law IpRuns: its call, at arguments that can be read as data, by the walk (sprlaw7_IpRuns.calls) and the pure theorem (Pure.IpRuns).
-/
import Derived.Test.YtldkhokpedfhdaaDoorRows
import Derived.Test.YtldkhokpedfhdaaDoorCards
import Derived.Test.YtldkhokpedfhdaaDoorTie
import Derived.Test.YtldkhokpedfhdaaDoorK6
import Derived.Test.YtldkhokpedfhdaaDoorPureIpRuns
import Derived.WalkKit
import Derived.ProofKit
import Derived.OpenShut
import Derived.ShutString
import Derived.ChangeOld
import Derived.Below
import Derived.SizedLaws
import Derived.SliceStrings
import Derived.Deep.Slices
import Derived.Deep.DeepHandedRow
import Derived.SevenTiedAt
import Derived.Carry
import Derived.Lib.LaidTab
import Derived.LaidSub
import Derived.MakeChecks
import Derived.Shelf.Vars
set_option linter.unusedVariables false
set_option linter.unusedSimpArgs false
namespace Go.Proofs.YtldkhokpedfhdaaDoor.ipRuns
open Go.ChangeShapes Go.WideShapes Go.ChangeAt Go.RowKit Go.Proofs.YtldkhokpedfhdaaDoor.K Go.Proofs.YtldkhokpedfhdaaDoorW.PrintWords
open Go.ChangeMaps (open_string shut_string)
open Go.Deep (open_slice)
/-- What lies at type t and can be read as data is some value of this kind, and a good one. -/
def Opens {α : Type} (P : Program) (t : TypeId) (d : Kd α) (G : α → Prop) (wt : α → Nat) : Prop :=
  ∀ {H : Type} (enc : TypeId × Value → H) (W : World) (held : Bool) (fuel : Nat) (cs : List Value) (x : DataW H × List MemPlace), DataW.trod enc P W 0 (fun _ => true) held fuel t cs = some x → ∃ a : α, d.K W a cs ∧ G a ∧ wt a ≤ Rows.uptoBulk x.1
section
variable {P : Program} {t e : TypeId}
theorem opens_int {k : IntKind} (ht : P.underlying t = some (.int k)) : Opens P t (Kd.int k) (fun n => (Lit.int k n).wf = true) (fun _ => 1) := by
  intro H enc W held fuel cs x h
  obtain ⟨n, rfl, rfl, hw⟩ := DataW.trod_int ht h
  exact ⟨n, rfl, hw, by simp [Rows.uptoBulk]⟩
theorem opens_bool (ht : P.underlying t = some .bool) : Opens P t Kd.bool (fun _ => True) (fun _ => 1) := by
  intro H enc W held fuel cs x h
  obtain ⟨n, rfl, rfl⟩ := DataW.trod_bool ht h
  exact ⟨n, rfl, trivial, by simp [Rows.uptoBulk]⟩
theorem opens_string (ht : P.underlying t = some .string) : Opens P t Kd.string (fun s => s.size ≤ maxLen) (fun s => s.size + 1) := by
  intro H enc W held fuel cs x h
  obtain ⟨n, rfl, rfl, hs⟩ := DataW.trod_string ht h
  exact ⟨n, rfl, hs, by simp only [Rows.uptoBulk, Array.length_toList]; exact Nat.le_refl _⟩
theorem list_of_each {α : Type} {p : Nat → α → Prop} : ∀ n : Nat, (∀ i, i < n → ∃ x, p i x) → ∃ xs : List α, xs.length = n ∧ ∀ i x, xs[i]? = some x → p i x
  | 0, _ => ⟨[], rfl, fun i x h => by simp at h⟩
  | n + 1, h => by
    obtain ⟨xs, hl, hx⟩ := list_of_each n (fun i hi => h i (by omega))
    obtain ⟨y, hy⟩ := h n (by omega)
    refine ⟨xs ++ [y], by simp [hl], fun i x hi => ?_⟩
    rcases Nat.lt_or_ge i xs.length with hlt | hge
    · rw [List.getElem?_append_left hlt] at hi
      exact hx i x hi
    · have h1 := (List.getElem?_eq_some_iff.1 hi).1
      rw [List.length_append, List.length_singleton] at h1
      have h2 : i = xs.length := by omega
      subst h2
      have : y = x := by simpa using hi
      subst this
      rw [hl]; exact hy
theorem cells_at {w : World} {base n : Nat} {a : Addr} {cs : List Value} (h : w.cells? base a n = some cs) : cs.length = n ∧ ∀ i u, cs[i]? = some u → w.cell? (a.add i) = some u := by
  unfold World.cells? at h
  by_cases hb : base ≤ a.block
  · rw [if_pos hb] at h
    refine ⟨by simpa using mapM_some_length h, fun i u hu => ?_⟩
    have hi : i < n := by
      have h1 := (List.getElem?_eq_some_iff.1 hu).1
      have h2 := mapM_some_length h
      simp at h2
      omega
    have := mapM_some_get h i i (by simp [hi])
    rw [this]; exact hu
  · rw [if_neg hb] at h; cases h
theorem add_add (a : Addr) (m i : Nat) : (a.add m).add i = a.add (m + i) := by
  unfold Addr.add
  by_cases h : m = 0 <;> by_cases h' : i = 0 <;> simp [h, h', Nat.add_assoc]
theorem bulk_all {H : Type} {α : Type} {wt : α → Nat} : ∀ (xs : List α) (ds : List (DataW H)), xs.length = ds.length → (∀ (i : Nat) (x : α) (d : DataW H), xs[i]? = some x → ds[i]? = some d → wt x ≤ Rows.uptoBulk d) → (xs.map wt).sum ≤ Rows.uptoBulkAll ds
  | [], _, _, _ => by simp
  | x :: xs, [], h, _ => by simp at h
  | x :: xs, d :: ds, h, hx => by
    have h1 := hx 0 x d rfl rfl
    have h2 := bulk_all xs ds (by simpa using h) (fun i y e hy he => hx (i + 1) y e (by simpa using hy) (by simpa using he))
    simp only [List.map_cons, List.sum_cons, Rows.uptoBulkAll]
    omega
theorem opens_slice {α : Type} {d : Kd α} {G : α → Prop} {wt : α → Nat} (ht : P.underlying t = some (.slice e)) (hc : P.cellsOf e = d.sz) (he : Opens P e d G wt) : Opens P t (Kd.slice e d) (fun xs => xs.length ≤ maxLen ∧ ∀ x ∈ xs, G x) (fun xs => (xs.map wt).sum + 1) := by
  intro H enc W held fuel cs x h
  rcases open_slice ht h with ⟨rfl, rfl⟩ | ⟨a, len, cap, m, n, D, Pl, rfl, _, hl, hm, hmm, rfl, hx⟩
  · exact ⟨[], ⟨none, 0, rfl, Nat.le_refl _, Kd.C_nil d W⟩, ⟨by simp [maxLen], fun x hx => by simp at hx⟩, by simp [Rows.uptoBulk]⟩
  · have hmc : len ≤ m := by rw [hmm]; simp only [if_true]; exact hl
    obtain ⟨xs, hlen, hxs⟩ := list_of_each (p := fun i (y : α) => (G y ∧ wt y ≤ Rows.uptoBulk (D i)) ∧ ∃ c, c.length = d.sz ∧ d.K W y c ∧ ∀ j u, c[j]? = some u → W.cell? (a.add (i * d.sz + j)) = some u) len (fun i hi => by
      obtain ⟨cs', h1, h2⟩ := hx i (by omega)
      obtain ⟨y, hK, hG, hw⟩ := he enc W held n cs' _ h2
      obtain ⟨h3, h4⟩ := cells_at h1
      rw [hc] at h3 h4
      exact ⟨y, ⟨hG, hw⟩, cs', h3, hK, fun j u hu => by rw [← add_add]; exact h4 j u hu⟩)
    refine ⟨xs, ⟨some a, cap, by rw [hlen], by rw [hlen]; exact hl, ?_⟩, ⟨by rw [hlen]; exact Nat.le_trans hl hm, fun x hx => ?_⟩, ?_⟩
    · refine ⟨rfl, by rw [hlen]; exact Nat.le_trans hl hm, fun _ => ⟨a, rfl, fun j p hp => ?_⟩⟩
      obtain ⟨_, c, h1, h2, h3⟩ := hxs j p hp
      exact ⟨c, h1, h2, h3⟩
    · obtain ⟨i, hi⟩ := List.mem_iff_getElem?.1 hx
      exact (hxs i x hi).1.1
    · have hb := bulk_all (wt := wt) xs ((List.range len).map D) (by simp [hlen]) (fun i x dd hx' hd => by
        have hi : i < len := by rw [← hlen]; exact (List.getElem?_eq_some_iff.1 hx').1
        have e : dd = D i := by simpa [hi] using hd.symm
        rw [e]; exact (hxs i x hx').1.2)
      simp only [Rows.uptoBulk]
      omega
theorem opens_struct2 {α β : Type} {a : Kd α} {b : Kd β} {G : α → Prop} {G' : β → Prop} {wt : α → Nat} {wt' : β → Nat} {f0 f1 : Field} (ht : P.underlying t = some (.struct #[f0, f1])) (h0 : (f0.offset, P.cellsOf f0.type) = (0, a.sz)) (h1 : (f1.offset, P.cellsOf f1.type) = (a.sz, b.sz)) (hT : P.cellsOf t = a.sz + b.sz)
    (ha : Opens P f0.type a G wt) (hb : Opens P f1.type b G' wt') : Opens P t (Kd.pair a b) (fun x => G x.1 ∧ G' x.2) (fun x => wt x.1 + wt' x.2 + 1) := by
  intro H enc W held fuel cs x h
  obtain ⟨y0, y1, n, rfl, hl, e0, e1⟩ := trod_struct2 ht h
  obtain ⟨o0, c0⟩ := Prod.mk.inj h0
  obtain ⟨o1, c1⟩ := Prod.mk.inj h1
  rw [o0, c0] at e0
  rw [o1, c1] at e1
  obtain ⟨x0, k0, g0, w0⟩ := ha enc W held n _ _ e0
  obtain ⟨x1, k1, g1, w1⟩ := hb enc W held n _ _ e1
  have s1 : (cs.drop a.sz).take b.sz = cs.drop a.sz := List.take_of_length_le (by rw [List.length_drop]; omega)
  rw [s1] at k1
  rw [List.drop_zero] at k0
  exact ⟨(x0, x1), ⟨cs.take a.sz, cs.drop a.sz, (List.take_append_drop _ _).symm, k0, k1⟩, ⟨g0, g1⟩, by simp only [Rows.uptoBulk, Rows.uptoBulkAll]; omega⟩
theorem opens_struct3 {α β γ : Type} {a : Kd α} {b : Kd β} {c : Kd γ} {G : α → Prop} {G' : β → Prop} {G2 : γ → Prop} {wt : α → Nat} {wt' : β → Nat} {wt2 : γ → Nat} {f0 f1 f2 : Field} (ht : P.underlying t = some (.struct #[f0, f1, f2])) (h0 : (f0.offset, P.cellsOf f0.type) = (0, a.sz)) (h1 : (f1.offset, P.cellsOf f1.type) = (a.sz, b.sz)) (h2 : (f2.offset, P.cellsOf f2.type) = (a.sz + b.sz, c.sz)) (hT : P.cellsOf t = a.sz + b.sz + c.sz)
    (ha : Opens P f0.type a G wt) (hb : Opens P f1.type b G' wt') (hc : Opens P f2.type c G2 wt2) : Opens P t (Kd.pair a (Kd.pair b c)) (fun x => G x.1 ∧ G' x.2.1 ∧ G2 x.2.2) (fun x => wt x.1 + wt' x.2.1 + wt2 x.2.2 + 1) := by
  intro H enc W held fuel cs x h
  obtain ⟨xs, n, _, rfl, hl, hlen, hf⟩ := DataW.trod_struct ht h
  match xs, hlen, hf with
  | [y0, y1, y2], _, hf =>
    have e0 := hf 0 f0 rfl
    have e1 := hf 1 f1 rfl
    have e2 := hf 2 f2 rfl
    obtain ⟨o0, c0⟩ := Prod.mk.inj h0
    obtain ⟨o1, c1⟩ := Prod.mk.inj h1
    obtain ⟨o2, c2⟩ := Prod.mk.inj h2
    rw [o0, c0] at e0
    rw [o1, c1] at e1
    rw [o2, c2] at e2
    obtain ⟨x0, k0, g0, w0⟩ := ha enc W held n _ _ e0
    obtain ⟨x1, k1, g1, w1⟩ := hb enc W held n _ _ e1
    obtain ⟨x2, k2, g2, w2⟩ := hc enc W held n _ _ e2
    have s2 : (cs.drop (a.sz + b.sz)).take c.sz = cs.drop (a.sz + b.sz) := List.take_of_length_le (by rw [List.length_drop]; omega)
    rw [s2] at k2
    rw [List.drop_zero] at k0
    refine ⟨(x0, x1, x2), ⟨cs.take a.sz, cs.drop a.sz, (List.take_append_drop _ _).symm, k0, (cs.drop a.sz).take b.sz, (cs.drop a.sz).drop b.sz, (List.take_append_drop _ _).symm, k1, by rw [List.drop_drop]; exact k2⟩, ⟨g0, g1, g2⟩, ?_⟩
    simp only [List.map_cons, List.map_nil, Rows.uptoBulk, Rows.uptoBulkAll]
    omega
theorem opens_struct4 {α β γ δ : Type} {a : Kd α} {b : Kd β} {c : Kd γ} {d : Kd δ} {G : α → Prop} {G' : β → Prop} {G2 : γ → Prop} {G3 : δ → Prop} {wt : α → Nat} {wt' : β → Nat} {wt2 : γ → Nat} {wt3 : δ → Nat} {f0 f1 f2 f3 : Field} (ht : P.underlying t = some (.struct #[f0, f1, f2, f3])) (h0 : (f0.offset, P.cellsOf f0.type) = (0, a.sz)) (h1 : (f1.offset, P.cellsOf f1.type) = (a.sz, b.sz)) (h2 : (f2.offset, P.cellsOf f2.type) = (a.sz + b.sz, c.sz)) (h3 : (f3.offset, P.cellsOf f3.type) = (a.sz + b.sz + c.sz, d.sz)) (hT : P.cellsOf t = a.sz + b.sz + c.sz + d.sz)
    (ha : Opens P f0.type a G wt) (hb : Opens P f1.type b G' wt') (hc : Opens P f2.type c G2 wt2) (hd : Opens P f3.type d G3 wt3) : Opens P t (Kd.pair a (Kd.pair b (Kd.pair c d))) (fun x => G x.1 ∧ G' x.2.1 ∧ G2 x.2.2.1 ∧ G3 x.2.2.2) (fun x => wt x.1 + wt' x.2.1 + wt2 x.2.2.1 + wt3 x.2.2.2 + 1) := by
  intro H enc W held fuel cs x h
  obtain ⟨xs, n, _, rfl, hl, hlen, hf⟩ := DataW.trod_struct ht h
  match xs, hlen, hf with
  | [y0, y1, y2, y3], _, hf =>
    have e0 := hf 0 f0 rfl
    have e1 := hf 1 f1 rfl
    have e2 := hf 2 f2 rfl
    have e3 := hf 3 f3 rfl
    obtain ⟨o0, c0⟩ := Prod.mk.inj h0
    obtain ⟨o1, c1⟩ := Prod.mk.inj h1
    obtain ⟨o2, c2⟩ := Prod.mk.inj h2
    obtain ⟨o3, c3⟩ := Prod.mk.inj h3
    rw [o0, c0] at e0
    rw [o1, c1] at e1
    rw [o2, c2] at e2
    rw [o3, c3] at e3
    obtain ⟨x0, k0, g0, w0⟩ := ha enc W held n _ _ e0
    obtain ⟨x1, k1, g1, w1⟩ := hb enc W held n _ _ e1
    obtain ⟨x2, k2, g2, w2⟩ := hc enc W held n _ _ e2
    obtain ⟨x3, k3, g3, w3⟩ := hd enc W held n _ _ e3
    have s3 : (cs.drop (a.sz + b.sz + c.sz)).take d.sz = cs.drop (a.sz + b.sz + c.sz) := List.take_of_length_le (by rw [List.length_drop]; omega)
    rw [s3] at k3
    rw [List.drop_zero] at k0
    refine ⟨(x0, x1, x2, x3), ⟨cs.take a.sz, cs.drop a.sz, (List.take_append_drop _ _).symm, k0, (cs.drop a.sz).take b.sz, (cs.drop a.sz).drop b.sz, (List.take_append_drop _ _).symm, k1, ((cs.drop a.sz).drop b.sz).take c.sz, ((cs.drop a.sz).drop b.sz).drop c.sz, (List.take_append_drop _ _).symm, by rw [List.drop_drop]; exact k2, by rw [List.drop_drop, List.drop_drop, ← Nat.add_assoc]; exact k3⟩, ⟨g0, g1, g2, g3⟩, ?_⟩
    simp only [List.map_cons, List.map_nil, Rows.uptoBulk, Rows.uptoBulkAll]
    omega
theorem opens_iso {α β : Type} {d : Kd α} {f : β → α} {G : α → Prop} {wt : α → Nat} (hd : Opens P t d G wt) (g : α → β) (hg : ∀ x, f (g x) = x) : Opens P t (Kd.iso d f) (fun x => G (f x)) (fun x => wt (f x)) := by
  intro H enc W held fuel cs x h
  obtain ⟨y, hK, hG, hw⟩ := hd enc W held fuel cs x h
  refine ⟨g y, ?_, ?_, ?_⟩
  · show d.K W (f (g y)) cs
    rw [hg]; exact hK
  · show G (f (g y))
    rw [hg]; exact hG
  · show wt (f (g y)) ≤ _
    rw [hg]; exact hw
theorem opens_arr {n : Nat} {k : IntKind} (ht : P.underlying t = some (.array n e)) (he : P.underlying e = some (.int k)) (hc : P.cellsOf e = 1) (ht' : P.cellsOf t = n) {H : Type} (enc : TypeId × Value → H) (W : World) (held : Bool) (fuel : Nat) (cs : List Value) (x : DataW H × List MemPlace) (h : DataW.trod enc P W 0 (fun _ => true) held fuel t cs = some x) :
    ∃ p : List Int, cs = p.map (Value.int k) ∧ p.length = n ∧ ∀ z ∈ p, (Lit.int k z).wf = true := by
  obtain ⟨xs, m, rfl, rfl, hl, hx, hf⟩ := DataW.trod_array ht h
  rw [ht'] at hl
  obtain ⟨p, hp, hpx⟩ := list_of_each (p := fun i (z : Int) => cs[i]? = some (.int k z) ∧ (Lit.int k z).wf = true) n (fun i hi => by
    have h1 := hf i hi
    rw [hc, Nat.mul_one, List.getElem?_eq_getElem (by omega)] at h1
    obtain ⟨z, hz, _, hw⟩ := DataW.trod_int he h1
    refine ⟨z, ?_, hw⟩
    have h2 : ((cs.drop i).take 1)[0]? = some (.int k z) := by rw [hz]; rfl
    rw [List.getElem?_take_of_lt (by decide), List.getElem?_drop] at h2
    exact h2)
  refine ⟨p, ?_, hp, fun z hz => ?_⟩
  · apply List.ext_getElem?
    intro i
    rw [List.getElem?_map]
    by_cases hi : i < n
    · rw [List.getElem?_eq_getElem (show i < p.length by omega)]
      exact (hpx i _ (List.getElem?_eq_getElem _)).1
    · rw [List.getElem?_eq_none (by omega), List.getElem?_eq_none (by omega)]; rfl
  · obtain ⟨i, hi⟩ := List.mem_iff_getElem?.1 hz
    exact (hpx i z hi).2
theorem okWide_arr {n : Nat} {w : World} {r : Reach} {base : Nat} {v : Value} (ht : P.underlying t = some (.array n e)) (h : Value.okWide P w r base t v) : ∃ cs, v = .agg cs := by
  simp only [Value.okWide, ht] at h
  obtain ⟨cs, h1, _⟩ := h
  exact ⟨cs, h1⟩
end

theorem own : ownKnob Tryd.prog.godebug = none := by kernel_rfl
theorem laidOut : laidOutB Tryd.prog = true := by kernel_rfl
set_option maxRecDepth 100000 in
/-- The call, for every argument that can be read. -/
theorem contract (H : Type) (enc : TypeId × Value → H) (W : World) (base : Nat) (args : Array Value) (ds gs : List (DataW H)) (before : List MemPlace)
    (hval : ∀ (j : Nat) t v, Tryd.f4.params[j]? = some t → args[j]? = some v → Value.okWide Tryd.prog W .any base t v)
    (hW : DataW.Whole enc Tryd.prog Tryd.f4.params.toList Rows.ipRunsSpec.vars false W args.toList ds gs before)
    (htab : Own.ipW W) :
    Calls Tryd.prog 4 args W fun e W' => ∃ v, e = .returned v ∧ Rows.ipRunsSpec.post enc Tryd.prog Tryd.f4 false true false false W args v W' := by
  have hW' := hW
  obtain ⟨p, q, hA0, hV, rfl, hfz, hnd⟩ := hW
  have hA : DataW.TrodAll enc Tryd.prog W 0 (fun _ => true) true Tryd.f4.params.toList args.toList ds p := hA0
  rw [Tryd.params4] at hA hval
  obtain ⟨v0, vs0, d0, ds0, p0, q0, hargs, rfl, rfl, h0, r0⟩ := trodAll_cons hA
  obtain ⟨v1, vs1, d1, ds1, p1, q1, rfl, rfl, rfl, h1, r1⟩ := trodAll_cons r0
  obtain ⟨v2, vs2, d2, ds2, p2, q2, rfl, rfl, rfl, h2, r2⟩ := trodAll_cons r1
  obtain ⟨rfl, rfl, rfl⟩ := trodAll_nil r2
  obtain rfl : args = #[v0, v1, v2] := by cases args; simp_all
  obtain ⟨rfl, rfl⟩ := trodVars_none hV
  have k0 := h0
  have lt0 : ∀ x ∈ p0, x.block < W.heap.size := by obtain ⟨m, hm⟩ := k0; exact DataW.trod_lt m _ _ _ hm
  obtain ⟨cs0, rfl⟩ := okWide_arr Tryd.underlying23 (hval 0 23 v0 rfl rfl)
  obtain ⟨fuel0, hf0⟩ := h0
  obtain ⟨x0, e0, hl0, y0⟩ := opens_arr Tryd.underlying23 Tryd.underlying22 (by kernel_rfl) (by kernel_rfl) enc W true fuel0 _ _ hf0
  obtain rfl : cs0 = arrV x0 := by have z : cs0.toList = x0.map (Value.int .u16) := e0; rw [← Array.toList_inj, z]; rfl
  have k1 := h1
  have lt1 : ∀ x ∈ p1, x.block < W.heap.size := by obtain ⟨m, hm⟩ := k1; exact DataW.trod_lt m _ _ _ hm
  obtain ⟨b1, rfl⟩ := okWide_int Tryd.underlying3 (hval 1 3 v1 rfl rfl)
  obtain ⟨fuel1, hf1⟩ := h1
  obtain ⟨a1, hK1, y1, w1⟩ := (opens_int Tryd.underlying3) enc W true fuel1 _ _ hf1
  have z1 : (Value.cells (.int .i64 b1)).toList = [.int .i64 a1] := hK1
  obtain rfl : b1 = a1 := by simpa [Value.cells] using z1
  have k2 := h2
  have lt2 : ∀ x ∈ p2, x.block < W.heap.size := by obtain ⟨m, hm⟩ := k2; exact DataW.trod_lt m _ _ _ hm
  obtain ⟨b2, rfl⟩ := okWide_int Tryd.underlying3 (hval 2 3 v2 rfl rfl)
  obtain ⟨fuel2, hf2⟩ := h2
  obtain ⟨a2, hK2, y2, w2⟩ := (opens_int Tryd.underlying3) enc W true fuel2 _ _ hf2
  have z2 : (Value.cells (.int .i64 b2)).toList = [.int .i64 a2] := hK2
  obtain rfl : b2 = a2 := by simpa [Value.cells] using z2
  clear hA0
  obtain ⟨k, h⟩ := Pure.IpRuns x0 b1 b2 hl0 y0 y1 y2
  refine (sprlaw7_IpRuns.calls k x0 b1 b2 true W  h (Aside0.mk rfl) htab).mono fun e W' ⟨he, bel⟩ => ?_
  subst he
  exact ⟨_, rfl, _, _, _, [], _, [], hW', trodAll_mk1 (shut_bool Tryd.underlying4 _), (trodAll_cons_mk (Below.trod laidOut (by kernel_rfl) (of_decide_eq_true (by kernel_rfl)) k0 bel lt0) (trodAll_cons_mk (Below.trod laidOut (by kernel_rfl) (of_decide_eq_true (by kernel_rfl)) k1 bel lt1) (trodAll_cons_mk (Below.trod laidOut (by kernel_rfl) (of_decide_eq_true (by kernel_rfl)) k2 bel lt2) trodAll_mk0))), rfl, bel.frame _, fun h => by cases h⟩
/-- A table of the library's is what the row lists. -/
theorem tabOf (W : World) (h : laidMetH Tryd.prog Rows.ipRunsRow.laid W) : Lib.TabIs Tryd.prog W "internal/strconv.uint64pow10" .u64 Lib.pow10Tab := by
  have h1 := laidMetH.filter (fun x => x.1 == "internal/strconv.uint64pow10") h
  have e : (Rows.ipRunsRow.laid.filter fun x => x.1 == "internal/strconv.uint64pow10") = [("internal/strconv.uint64pow10", Lib.tabData .u64 Lib.pow10Tab)] := by kernel_rfl
  rw [e, MakeChecks.laidMetH_plain _ _ _ (by kernel_rfl)] at h1
  exact Lib.tabIs_of_head (g := 1) (t := 96) (e := 64) (n := 20) (by kernel_rfl) (by kernel_rfl) (by kernel_rfl) (by kernel_rfl) (by kernel_rfl) (by kernel_rfl) h1
/-- A table of the library's is what the row lists. -/
theorem tabOf2 (W : World) (h : laidMetH Tryd.prog Rows.ipRunsRow.laid W) : Lib.TabIs Tryd.prog W "math/bits.deBruijn64tab" .u8 (Lib.deBruijn64tab.map Int.ofNat) := by
  have h1 := laidMetH.filter (fun x => x.1 == "math/bits.deBruijn64tab") h
  have e : (Rows.ipRunsRow.laid.filter fun x => x.1 == "math/bits.deBruijn64tab") = [("math/bits.deBruijn64tab", Lib.tabData .u8 (Lib.deBruijn64tab.map Int.ofNat))] := by kernel_rfl
  rw [e, MakeChecks.laidMetH_plain _ _ _ (by kernel_rfl)] at h1
  exact Lib.tabIs_of_head (g := 3) (t := 107) (e := 5) (n := 64) (by kernel_rfl) (by kernel_rfl) (by kernel_rfl) (by kernel_rfl) (by kernel_rfl) (by kernel_rfl) h1
/-- A table's cells, out of what it reads as. -/
def lit1 : DataW Unit → Value
  | .lit (.int k n) => .int k n
  | .lit (.bool b) => .bool b
  | .lit (.string s) => .string ⟨s.toArray⟩
  | _ => undef
def cells1 : DataW Unit → List Value
  | .agg l => l.map lit1
  | d => [lit1 d]
def cells2 : DataW Unit → List Value
  | .agg l => l.flatMap cells1
  | d => [lit1 d]
noncomputable def place (name : String) : Nat := (Tryd.prog.globalNamed name).getD 0
noncomputable def laidWorld (os : Os) : World :=
  let w := World.holding Tryd.prog os ⟨#[], #[], []⟩
  { w with heap := (((((w.heap.modify (place "math/bits.deBruijn32tab") fun
      | .cells _ t frozen => .cells (cells2 Rows.laid_math_bits_deBruijn32tab).toArray t frozen
      | o => o).modify (place "math/bits.deBruijn64tab") fun
      | .cells _ t frozen => .cells (cells2 Rows.laid_math_bits_deBruijn64tab).toArray t frozen
      | o => o).modify (place "internal/strconv.uint64pow10") fun
      | .cells _ t frozen => .cells (cells2 Rows.laid_internal_strconv_uint64pow10).toArray t frozen
      | o => o).modify (place "unicode/utf8.acceptRanges") fun
      | .cells _ t frozen => .cells (cells2 Rows.laid_unicode_utf8_acceptRanges).toArray t frozen
      | o => o).modify (place "unicode/utf8.first") fun
      | .cells _ t frozen => .cells (cells2 Rows.laid_unicode_utf8_first).toArray t frozen
      | o => o) }
set_option maxRecDepth 100000 in
theorem laid_met (os : Os) : laidMet Tryd.prog Rows.ipRunsRow.laid ((laidWorld os).forCall (fun _ _ => 0) ⟨#[], #[(.agg #[.int .u16 0, .int .u16 0, .int .u16 0, .int .u16 0, .int .u16 0, .int .u16 0, .int .u16 0, .int .u16 0] : Value), (.int .i64 0 : Value), (.int .i64 0 : Value)], []⟩).memory :=
  laidMet_of_run' 8 (by kernel_rfl) (by kernel_rfl)
set_option maxRecDepth 100000 in
theorem reads (os : Os) {H : Type} (enc : TypeId × Value → H) : ∃ places, DataW.whole enc Tryd.prog ((laidWorld os).forCall (fun _ _ => 0) ⟨#[], #[(.agg #[.int .u16 0, .int .u16 0, .int .u16 0, .int .u16 0, .int .u16 0, .int .u16 0, .int .u16 0, .int .u16 0] : Value), (.int .i64 0 : Value), (.int .i64 0 : Value)], []⟩).memory Tryd.f4.params.toList Rows.ipRunsSpec.vars false (#[(.agg #[.int .u16 0, .int .u16 0, .int .u16 0, .int .u16 0, .int .u16 0, .int .u16 0, .int .u16 0, .int .u16 0] : Value), (.int .i64 0 : Value), (.int .i64 0 : Value)] : Array Value).toList 8 = some ([.agg [.lit (.int .u16 0), .lit (.int .u16 0), .lit (.int .u16 0), .lit (.int .u16 0), .lit (.int .u16 0), .lit (.int .u16 0), .lit (.int .u16 0), .lit (.int .u16 0)], .lit (.int .i64 0), .lit (.int .i64 0)], [], places) :=
  ⟨[], by kernel_rfl⟩
set_option maxRecDepth 100000 in
theorem lifted (os : Os) (started : os.Started) (H : Type) (enc : TypeId × Value → H) (F : Stop.Interp) :
    ReturnsInHanded {} Tryd.checked os 4 .any ((OpenSpec.ofChange Rows.ipRunsSpec).preRow enc Tryd.prog Tryd.f4 Rows.ipRunsRow.domain false Rows.ipRunsRow.laid) (((OpenSpec.ofChange Rows.ipRunsSpec).at F).post enc Tryd.prog Tryd.f4 false true false false) := by
  obtain ⟨places, hx⟩ := reads os enc
  refine returnsInHanded_of_row (C := Tryd.checked) (s := OpenSpec.ofChange Rows.ipRunsSpec) own started (by kernel_rfl) Tryd.func4
    (witness_row_at (enc := enc) (C := Tryd.checked) false (laidWorld os) #[(.agg #[.int .u16 0, .int .u16 0, .int .u16 0, .int .u16 0, .int .u16 0, .int .u16 0, .int .u16 0, .int .u16 0] : Value), (.int .i64 0 : Value), (.int .i64 0 : Value)] rfl (by kernel_rfl) (by kernel_rfl) (by kernel_rfl)
      (OpenSpec.preRow_of_cond 8 hx (by kernel_rfl) (fun k hk => by cases hk) (by kernel_rfl) (laid_met os))) ?_
  intro W base args ds gs before hval hW _ hcond hsz hL hS _
  exact contract H enc W base args ds gs before hval hW ⟨cell_of_shapedOpen_int (g := 0) (t := 3) (zero := #[.int .i64 0]) hS (of_decide_eq_true (by kernel_rfl)) (by kernel_rfl) rfl (by kernel_rfl) (by kernel_rfl) (by kernel_rfl), tabOf2 W hL, tabOf W hL⟩
theorem said : Rows.IpRunsSaid :=
  OpenClaim.holds_of_cond 4 Tryd.f4 rfl rfl rfl rfl rfl rfl rfl ⟨rfl, rfl, rfl, rfl, rfl⟩ rfl rfl rfl rfl rfl (by kernel_rfl) Tryd.func4 (by kernel_rfl)
    (of_decide_eq_true (by kernel_rfl)) (by unfold Func.isWrapper; first | (rw [if_pos (by decide +kernel)]; kernel_rfl) | (rw [if_neg (by decide +kernel)]; exact ⟨rfl, rfl⟩))
    (fun os started H enc _ F => by rw [OpenClaim.pre_eq_preRow]; exact lifted os started H enc F)
theorem plain (f : FuncId) (fn : Func) (hf : Tryd.pinned.checked.prog.funcNamed "springhouse/sprlaw7.IpRuns" = some f) (hfn : Tryd.pinned.checked.prog.funcs[f]? = some fn) :
    false = Tryd.pinned.checked.prog.looks [] ∧ ∀ (j : Nat) t, fn.params[j]? = some t → Tryd.pinned.checked.prog.wantsStandIn t = false := by
  obtain rfl : f = 4 := Option.some.inj ((show Tryd.prog.funcNamed "springhouse/sprlaw7.IpRuns" = some 4 by kernel_rfl).symm.trans hf) |>.symm
  obtain rfl : fn = Tryd.f4 := (Option.some.inj (Tryd.func4.symm.trans hfn)).symm
  refine ⟨by kernel_rfl, fun j t ht => ?_⟩
  rw [Tryd.params4] at ht
  have hm := Array.mem_of_getElem? ht
  have all : ∀ u ∈ (#[23, 3, 3] : Array TypeId), Tryd.prog.wantsStandIn u = false := by
    intro u hu
    simp only [List.mem_toArray, List.mem_cons, List.not_mem_nil, or_false] at hu
    rcases hu with rfl | rfl | rfl <;> kernel_rfl
  exact all t hm
theorem card : Rows.IpRunsCardSaid :=
  Claim7.holds_tied_plain_at .later [] _ _ _ _ said (fun _ h => by cases h) (by kernel_rfl) (fun _ h => by cases h) ipRuns_row_tie rfl ⟨rfl, rfl⟩ (by kernel_rfl) rfl plain (by kernel_rfl)
end Go.Proofs.YtldkhokpedfhdaaDoor.ipRuns
namespace Go.Proofs.YtldkhokpedfhdaaDoor
/-- The statement, under a short name, for the claim. -/
theorem ipRuns_holds : Rows.IpRunsCardSaid := ipRuns.card
#print axioms ipRuns_holds
end Go.Proofs.YtldkhokpedfhdaaDoor
