-- Written by a program of this session's (wip/xprint.py), out of the seat's translation.
import Derived.Test.YtdikhinmlpihdaaDoorR0
import Derived.Test.YtdikhinmlpihdaaDoorR1
import Derived.Test.YtdikhinmlpihdaaDoorR4
namespace Go.Proofs.YtdikhinmlpihdaaDoor.R
open Go.RowKit Go.Proofs.YtdikhinmlpihdaaDoorW.PrintWords Go.Proofs.YtdikhinmlpihdaaDoorW.PrintLast Go.Proofs.YtdikhinmlpihdaaDoorW.PrintMore
attribute [local go_sem] max2_int min2_int max_two min_two max_three min_three max_four min_four   -- for this text's walks alone
set_option linter.unusedVariables false
set_option linter.unusedSimpArgs false

/-! ### sprlaw21_first: function 14 -/
theorem use_nil (w : World) : Kd.C k32 w none ([] : List S32).length [] := ⟨rfl, by decide, fun h => absurd h (by simp)⟩
theorem use_lit (w : World) (x : S32) (t : TypeId) : Kd.C k32 (w.alloc (.cells #[.string x.f0, .string x.f1] t)) (some ⟨w.heap.size, 0, none⟩) 1 [x] := by
  refine ⟨rfl, by decide, fun _ => ⟨_, rfl, fun i y hy => ?_⟩⟩
  have hi : i = 0 := by have := (List.getElem?_eq_some_iff.1 hy).1; simp at this; exact this
  subst hi
  obtain rfl : x = y := Option.some.inj hy
  refine ⟨[.string x.f0, .string x.f1], rfl, k32.K_of_M (k32_mkM (w.alloc (.cells #[.string x.f0, .string x.f1] t)) 0 (fun _ => True) x), fun j v hv => ?_⟩
  have hj : j = 0 ∨ j = 1 := by have := (List.getElem?_eq_some_iff.1 hv).1; simp at this; omega
  rcases hj with rfl | rfl
  · obtain rfl : Value.string x.f0 = v := Option.some.inj hv
    exact (blk_cell (blk_new w (.cells #[.string x.f0, .string x.f1] t)) 0).trans rfl
  · obtain rfl : Value.string x.f1 = v := Option.some.inj hv
    exact (blk_cell (blk_new w (.cells #[.string x.f0, .string x.f1] t)) 1).trans rfl
theorem sprlaw21_first.p1 (w : World) : Calls Tryd.prog 30 #[.bool false, .slice none 0 0, .slice none 0 0, .int .i64 5, .int .i64 6] w fun e w' => e = .returned (.int .i64 1) ∧ Below w.heap.size w w' :=
  use_Decide.calls 60 false none 0 [] none 0 [] 5 6 1 w (use_nil w) (Nat.le_refl _) (use_nil w) (Nat.le_refl _) (by kernel_rfl)
theorem sprlaw21_first.p2 (w : World) : Calls Tryd.prog 30 #[.bool false, .slice none 0 0, .slice none 0 0, .int .i64 5, .int .i64 5] w fun e w' => e = .returned (.int .i64 3) ∧ Below w.heap.size w w' :=
  use_Decide.calls 60 false none 0 [] none 0 [] 5 5 3 w (use_nil w) (Nat.le_refl _) (use_nil w) (Nat.le_refl _) (by kernel_rfl)
def sprlaw21_first.x : S32 := ⟨(⟨#[67, 97, 99, 104, 101, 45, 67, 111, 110, 116, 114, 111, 108]⟩ : ByteArray), (⟨#[109, 97, 120, 45, 115, 116, 97, 108, 101]⟩ : ByteArray)⟩
theorem sprlaw21_first.p3 (A : Option Addr) (w : World) (hr : Kd.C k32 w A 1 [sprlaw21_first.x]) : Calls Tryd.prog 30 #[.bool false, .slice A 1 1, .slice none 0 0, .int .i64 5, .int .i64 5] w fun e w' => e = .returned (.int .i64 2) ∧ Below w.heap.size w w' :=
  use_Decide.calls 60 false A 1 [sprlaw21_first.x] none 0 [] 5 5 2 w hr (Nat.le_refl _) (use_nil w) (Nat.le_refl _) (by kernel_rfl)
set_option maxHeartbeats 1000000 in
set_option maxRecDepth 100000 in
theorem sprlaw21_first.own (w : World) :
    Calls Tryd.prog 14 #[] w fun e w' => e = .returned (.bool true) ∧ Below w.heap.size w w' := by
  have hu29 := Tryd.underlying32
  have HL := Aside0.mk (use_lit w sprlaw21_first.x 32)
  have HB := Aside0.mk ((Below.refl w.heap.size w).alloc (Nat.le_refl _) (.cells #[.string sprlaw21_first.x.f0, .string sprlaw21_first.x.f1] 32))
  have T0 := Aside0.mk trivial
  go_enter Tryd.func14, Tryd.ntmps14
  go_wp2_with (first | (clear T0; go_at_call 30; (with_reducible refine (sprlaw21_first.p1 _).mono ?_); rintro e w1 ⟨rfl, hb⟩; have n0_ := Aside0.mk (Kd.C_below HL.out hb); have n1_ := Aside0.mk (HB.out.trans (hb.mono HB.out.size)); clear HL HB hb; have HL := n0_; have HB := n1_; clear n0_ n1_; have T1 := Aside0.mk trivial) | (clear T1; go_at_call 30; (with_reducible refine (sprlaw21_first.p2 _).mono ?_); rintro e w1 ⟨rfl, hb⟩; have n0_ := Aside0.mk (Kd.C_below HL.out hb); have n1_ := Aside0.mk (HB.out.trans (hb.mono HB.out.size)); clear HL HB hb; have HL := n0_; have HB := n1_; clear n0_ n1_; have T2 := Aside0.mk trivial) | (clear T2; go_at_call 30; (with_reducible refine (sprlaw21_first.p3 _ _ HL.out).mono ?_); rintro e w1 ⟨rfl, hb⟩; have n1_ := Aside0.mk (HB.out.trans (hb.mono HB.out.size)); clear HL HB hb; have HB := n1_; clear n1_))
  go_ret
  exact ⟨rfl, HB.out⟩
def sprlaw21_first.f (k : Nat) : Option Bool := some true
theorem sprlaw21_first.mono : ∀ k, LeO (sprlaw21_first.f k) (sprlaw21_first.f (k + 1)) := fun _ => LeO.refl _
theorem sprlaw21_first.calls (k : Nat) (r : Bool) (w : World) (h : sprlaw21_first.f k = some r) :
    Calls Tryd.prog 14 #[] w fun e w' => e = .returned (.bool r) ∧ Below w.heap.size w w' := by
  obtain rfl : true = r := Option.some.inj h
  exact sprlaw21_first.own w


/-! ### slices_CloneL: function 44 -/
/-! #### rows of lines, cell by cell -/
def flat (ys : List S32) : List Value := ys.flatMap fun x => [.string x.f0, .string x.f1]
theorem flat_cons (x : S32) (t : List S32) : flat (x :: t) = .string x.f0 :: .string x.f1 :: flat t := rfl
theorem flat_length : ∀ ys : List S32, (flat ys).length = ys.length * 2
  | [] => rfl
  | x :: t => by rw [flat_cons, List.length_cons, List.length_cons, flat_length t, List.length_cons]; omega
theorem flat_get : ∀ (ys : List S32) (j : Nat) (x : S32), ys[j]? = some x → (flat ys)[j * 2]? = some (.string x.f0) ∧ (flat ys)[j * 2 + 1]? = some (.string x.f1)
  | [], j, x, h => by simp at h
  | y :: t, 0, x, h => by
    rw [List.getElem?_cons_zero] at h
    obtain rfl := Option.some.inj h
    exact ⟨rfl, rfl⟩
  | y :: t, j + 1, x, h => by
    rw [List.getElem?_cons_succ] at h
    have := flat_get t j x h
    rw [flat_cons, show (j + 1) * 2 = j * 2 + 1 + 1 by omega, List.getElem?_cons_succ, List.getElem?_cons_succ, List.getElem?_cons_succ, List.getElem?_cons_succ]
    exact this
theorem flat_set : ∀ (ys : List S32) (i : Nat) (x : S32), flat (ys.set i x) = ((flat ys).set (i * 2) (.string x.f0)).set (i * 2 + 1) (.string x.f1)
  | [], i, x => by simp [flat]
  | y :: t, 0, x => rfl
  | y :: t, i + 1, x => by
    rw [List.set_cons_succ, flat_cons, flat_cons, flat_set t i x, show (i + 1) * 2 = i * 2 + 1 + 1 by omega, List.set_cons_succ, List.set_cons_succ, List.set_cons_succ, List.set_cons_succ]
theorem flat_take : ∀ (ys : List S32) (i : Nat), flat (ys.take i) = (flat ys).take (i * 2)
  | [], i => by simp [flat]
  | y :: t, 0 => by simp [flat]
  | y :: t, i + 1 => by
    rw [List.take_succ_cons, flat_cons, flat_cons, flat_take t i, show (i + 1) * 2 = i * 2 + 1 + 1 by omega, List.take_succ_cons, List.take_succ_cons]
theorem flat_reps : ∀ (ys : List S32) (w : World) (base : Nat) (ok : Nat → Prop), Reps (k32.M w base ok) 2 ys (flat ys) := by
  intro ys w base ok
  refine ⟨flat_length ys, fun j x hx => ?_⟩
  have h1 := flat_get ys j x hx
  have hj := (List.getElem?_eq_some_iff.1 hx).1
  have e : ((flat ys).drop (j * 2)).take 2 = [.string x.f0, .string x.f1] := by
    apply List.ext_getElem?
    intro k
    rw [List.getElem?_take]
    rcases k with _ | _ | k
    · rw [if_pos (by omega), List.getElem?_drop]; exact h1.1
    · rw [if_pos (by omega), List.getElem?_drop]; exact h1.2
    · rw [if_neg (by omega)]; rfl
  rw [e]
  exact k32_mkM w base ok x
theorem flat_of_reps {w : World} {base : Nat} {ok : Nat → Prop} : ∀ (ys : List S32) (cs : List Value), Reps (k32.M w base ok) 2 ys cs → cs = flat ys := by
  intro ys cs h
  apply List.ext_getElem?
  intro m
  rcases Nat.lt_or_ge m (ys.length * 2) with hm | hm
  · have hj : m / 2 < ys.length := by omega
    have hx := List.getElem?_eq_getElem hj
    have h1 := k32_openM (h.2 _ _ hx)
    have h2 := flat_get ys _ _ hx
    have h3 : ∀ k, k < 2 → cs[m / 2 * 2 + k]? = [Value.string (ys[m / 2]).f0, .string (ys[m / 2]).f1][k]? := by
      intro k hk
      rw [← h1, List.getElem?_take, if_pos hk, List.getElem?_drop]
    rcases Nat.mod_two_eq_zero_or_one m with h0 | h0
    · have e : m = m / 2 * 2 := by omega
      rw [e, h2.1]
      have := h3 0 (by omega)
      rw [Nat.add_zero] at this
      rw [this]; rfl
    · have e : m = m / 2 * 2 + 1 := by omega
      rw [e, h2.2, h3 1 (by omega)]; rfl
  · rw [List.getElem?_eq_none (by rw [h.1]; exact hm), List.getElem?_eq_none (by rw [flat_length]; exact hm)]
/-- The lines ys lie at the head of block B (room for cap). -/
def Row45 (w : World) (B cap : Nat) (ys : List S32) : Prop :=
  ∃ cur : Array Value, w.heap[B]? = some (.cells cur 32 (0, 0)) ∧ ys.length ≤ cap ∧ cap ≤ maxLen ∧ cur.size = cap * 2 ∧ cur.toList.take (ys.length * 2) = flat ys
theorem Row45.of_R {w : World} {base n c : Nat} {ok : Nat → Prop} {A : Option Addr} {ys : List S32} (h : Kd.R k32 32 w base ok (.slice A n c) ys) (hn : 0 < n) : ∃ B, A = some ⟨B, 0, none⟩ ∧ base ≤ B ∧ Row45 w B c ys := by
  obtain ⟨_, inner, ⟨h1, h2⟩, hr⟩ := h
  have e := flat_of_reps ys inner hr
  subst e
  rcases h2 with ⟨h2, _⟩ | ⟨g, cap, cur, h2, hg, hh, h3, h4, h5, h6⟩
  · injection h2 with _ h2; omega
  · injection h2 with a1 a2 a3
    subst a1; subst a3
    exact ⟨g, rfl, hg, cur, hh, h3, h4, h5, h6⟩
theorem Row45.to_R {w : World} {B cap base : Nat} {ys : List S32} (h : Row45 w B cap ys) (hb : base ≤ B) : Kd.R k32 32 w base (fun _ => True) (.slice (some ⟨B, 0, none⟩) ys.length cap) ys := by
  obtain ⟨cur, h1, h2, h3, h4, h5⟩ := h
  exact ⟨fun _ _ => trivial, flat ys, ⟨flat_length ys, .inr ⟨B, cap, cur, rfl, hb, h1, h2, h3, h4, h5⟩⟩, flat_reps ys _ _ _⟩
theorem Row45.lt {w : World} {B cap : Nat} {ys : List S32} (h : Row45 w B cap ys) : B < w.heap.size := by
  obtain ⟨cur, h1, _⟩ := h
  exact (Array.getElem?_eq_some_iff.1 h1).1
theorem Row45.get {w : World} {B cap : Nat} {ys : List S32} (h : Row45 w B cap ys) {j : Nat} {x : S32} (hx : ys[j]? = some x) :
    w.cell? ⟨B, j * 2, none⟩ = some (.string x.f0) ∧ w.cell? ⟨B, j * 2 + 1, none⟩ = some (.string x.f1) := by
  obtain ⟨cur, h1, h2, h3, h4, h5⟩ := h
  have hj := (List.getElem?_eq_some_iff.1 hx).1
  have h6 := flat_get ys j x hx
  rw [← h5] at h6
  rw [List.getElem?_take, if_pos (by omega), List.getElem?_take, if_pos (by omega)] at h6
  rw [blk_cell h1, blk_cell h1]
  simpa using h6
theorem Row45.free {w : World} {B cap : Nat} {ys : List S32} (h : Row45 w B cap ys) (j : Nat) : w.frozen? ⟨B, j, none⟩ = false := by
  obtain ⟨cur, h1, _⟩ := h
  exact blk_frozen h1 j
theorem Row45.block {w w1 : World} {B cap : Nat} {ys : List S32} (h : Row45 w B cap ys) (e : w1.heap[B]? = w.heap[B]?) : Row45 w1 B cap ys := by
  obtain ⟨cur, h1, h2⟩ := h
  exact ⟨cur, e.trans h1, h2⟩
theorem Row45.below {w w1 : World} {B cap : Nat} {ys : List S32} (h : Row45 w B cap ys) (hb : Below w.heap.size w w1) : Row45 w1 B cap ys := h.block (hb.block B h.lt)
theorem Row45.take {w : World} {B cap : Nat} {ys : List S32} (h : Row45 w B cap ys) (i : Nat) : Row45 w B cap (ys.take i) := by
  obtain ⟨cur, h1, h2, h3, h4, h5⟩ := h
  refine ⟨cur, h1, by rw [List.length_take]; omega, h3, h4, ?_⟩
  rw [flat_take, ← h5, List.take_take, List.length_take]
  congr 1; omega
theorem Row45.set {w : World} {B cap : Nat} {ys : List S32} (h : Row45 w B cap ys) (i : Nat) (x : S32) :
    Row45 ((w.setCell ⟨B, i * 2, none⟩ (.string x.f0)).setCell ⟨B, i * 2 + 1, none⟩ (.string x.f1)) B cap (ys.set i x) := by
  obtain ⟨cur, h1, h2, h3, h4, h5⟩ := h
  refine ⟨_, blk_set (blk_set h1 (i * 2) (.string x.f0)) (i * 2 + 1) (.string x.f1), by rw [List.length_set]; exact h2, h3, by simpa using h4, ?_⟩
  rw [flat_set, ← h5, List.length_set, Array.toList_setIfInBounds, Array.toList_setIfInBounds, List.take_set, List.take_set]
theorem setCells_blk : ∀ (vs : List Value) (o : Nat) (w : World) (B : Nat) (cur : Array Value) (t : TypeId), w.heap[B]? = some (.cells cur t (0, 0)) → ∃ cur', (w.setCells B o vs).heap[B]? = some (.cells cur' t (0, 0)) ∧ cur'.size = cur.size ∧ cur'.toList.take o = cur.toList.take o
  | [], o, w, B, cur, t, h => ⟨cur, h, rfl, rfl⟩
  | v :: vs, o, w, B, cur, t, h => by
    obtain ⟨cur', h1, h2, h3⟩ := setCells_blk vs (o + 1) (w.setCell ⟨B, o, none⟩ v) B _ t (blk_set h o v)
    refine ⟨cur', h1, by rw [h2]; simp, ?_⟩
    have := congrArg (List.take o) h3
    rw [List.take_take, List.take_take, Nat.min_eq_left (by omega), Array.toList_setIfInBounds] at this
    rw [this, List.take_set, List.set_eq_of_length_le (by rw [List.length_take]; omega)]
theorem Row45.clear {w : World} {B cap : Nat} {ys : List S32} (h : Row45 w B cap ys) (i : Nat) (vs : List Value) (hi : i ≤ ys.length) : Row45 (w.setCells B (i * 2) vs) B cap (ys.take i) := by
  obtain ⟨cur, h1, h2, h3, h4, h5⟩ := h.take i
  obtain ⟨cur', e1, e2, e3⟩ := setCells_blk vs (i * 2) w B cur 32 h1
  refine ⟨cur', e1, h2, h3, by rw [e2, h4], ?_⟩
  rw [List.length_take, Nat.min_eq_left hi] at h5 ⊢
  rw [e3, h5]
theorem below_setCells {b : Nat} {a : World} : ∀ (vs : List Value) (o : Nat) (w : World) (B : Nat), Below b a w → b ≤ B → Below b a (w.setCells B o vs)
  | [], o, w, B, h, hb => h
  | v :: vs, o, w, B, h, hb => below_setCells vs (o + 1) (w.setCell ⟨B, o, none⟩ v) B (h.setCell hb v) hb
set_option maxHeartbeats 8000000 in
set_option maxRecDepth 100000 in
theorem slices_Clone.own (A : Option Addr) (c : Nat) (l : List S32) (w : World) (hC : Kd.C k32 w A l.length l) (hc : l.length ≤ c) (hl : l.length < 4398046511104) :
    Calls Tryd.prog 44 #[.slice A l.length c] w fun e w' => ∃ v, e = .returned v ∧ Kd.R k32 32 w' w.heap.size (fun _ => True) v l ∧ Below w.heap.size w w' := by
  have q22 : ∀ (w : World) (a : Option Addr) (n c n' c' : Nat), (binOp .eql 22 (.slice a n c) (.slice none n' c')).run Tryd.prog w = .ok (.bool a.isNone) w := fun w a n c n' c' => Lib.run_eql_slice_nil w _ _ a n c n' c' Tryd.underlying22
  cases A with
  | none =>
    have h0 : l = [] := by
      rcases Nat.eq_zero_or_pos l.length with h | h
      · exact List.eq_nil_of_length_eq_zero h
      · obtain ⟨ad, e, _⟩ := hC.2.2 h; cases e
    subst h0
    go_enter Tryd.func44, Tryd.ntmps44
    go_wp2
    go_ret
    exact ⟨_, rfl, Kd.R_nil _ _ _ _ _, Below.refl _ _⟩
  | some ad =>
    have HR0 := Aside0.mk hC
    have HC0 := Aside0.mk hc
    clear hC hc
    have HB := Aside0.mk (Below.refl w.heap.size w)
    go_enter Tryd.func44, Tryd.ntmps44
    go_wp2_with (first | ((with_reducible refine gate_dst (N := 5) rfl ?_); refine Kd.R_lit k32 _ 32 ?hg (N := 5) ?hd (xs := ([] : List (S32))) (inner := []) (ok := fun _ => True) (okp := fun _ => True) ?hr ?hp (fun _ hk => hk) trivial (Below.refl _ _) (Nat.le_refl _) (by simp) ?_; (case hd => rfl); (case hg => rfl); (case hr => first | (go_simp; done) | (go_simp; rfl)); (case hp => exact (Reps.none _ _)); intro v214 w3 ho4 hb hg_ hnew_; clear hg_ hnew_; (first | skip | (simp only [Int.reduceToNat] at ho4)); have n0_ := Aside0.mk (Kd.R_lower ho4 (below_size (by repeat (first | (with_reducible first | exact HB.out | apply below_alloc | apply pw_below_drewN | apply below_drew1) | exact HB.out)))); have n1_ := Aside0.mk (below_step (by repeat (first | (with_reducible first | exact HB.out | apply below_alloc | apply pw_below_drewN | apply below_drew1) | exact HB.out)) hb); clear HB; have HO215 := n0_; have HB := n1_; clear n0_ n1_; clear hb ho4) | ((with_reducible refine gate_builtin (b := .append) (xs := #[.tmp 5, .tmp 6]) rfl ?_); at_builtin; refine Kd.R_append_rows k32 (w0 := w) w.heap.size rfl (.tmp 5) (.tmp 6) 22 32 (.agg #[(.string ⟨#[]⟩), (.string ⟨#[]⟩)]) 32 rfl Tryd.underlying22 info32 rfl (by decide) (by omega) v214 [] l _ _ _ (fun _ => True) (fun _ => False) rfl rfl ?aO ?aR (fun _ _ h => h) (fun _ h => h.elim) ?aF ?aB ?aS ?aL ?_; (case aR => repeat (first | exact (Kd.C_below HR0.out HB.out) | (with_reducible refine Kd.C_alloc ?_ _) | (with_reducible refine Kd.C_drewN ?_ _) | (with_reducible refine Kd.C_drew ?_))); (case aB => exact (by repeat (first | (with_reducible first | exact HB.out | apply below_alloc | apply pw_below_drewN | apply below_drew1) | exact HB.out))); (case aF => exact (fun _ _ => trivial)); (case aO => exact (by (with_reducible repeat (first | apply Kd.R_alloc | apply Kd.R_drewN | apply Kd.R_drew)); exact HO215.out)); (case aS => exact (below_size (by repeat (first | (with_reducible first | exact HB.out | apply below_alloc | apply pw_below_drewN | apply below_drew1) | exact HB.out)))); (case aL => simp only [List.length_nil]; omega); intro v217 w5 ho hb hg hat; have n0_ := Aside0.mk (hb); have n1_ := Aside0.mk (ho); clear HB; clear HO215; have HB := n0_; have HO218 := n1_; clear n0_ n1_; clear ho hb hg hat))
    go_ret
    exact ⟨_, rfl, HO218.out, HB.out⟩


/-! ### slices_IndexFuncL: function 65 -/
/-- What a function value of the caller's does at the lines xs: it may make things above base, and turns nothing. -/
def PredF (g : Nat) (lb : Array Value) (p : S32 → Bool) (base : Nat) (w : World) (l : List S32) : Prop :=
  ∀ x ∈ l, ∀ W, Below base w W → Calls Tryd.prog g (#[.agg #[.string x.f0, .string x.f1]] ++ lb) W fun e w' => e = .returned (.bool (p x)) ∧ Below W.heap.size W w'
def idxF (p : S32 → Bool) (l : List S32) : Int := match l.findIdx? p with | some i => (i : Int) | none => -1
theorem idxF_hit {p : S32 → Bool} {l : List S32} {n : Nat} {x : S32} (hx : l[n]? = some x) (h : ∀ (j : Nat) (y : S32), j < n → l[j]? = some y → p y = false) (hp : p x = true) : idxF p l = (n : Int) := by
  unfold idxF
  obtain ⟨h1, h2⟩ := List.getElem?_eq_some_iff.1 hx
  have : l.findIdx? p = some n := by
    rw [List.findIdx?_eq_some_iff_getElem]
    exact ⟨h1, by rw [h2]; exact hp, fun j hj => by rw [h j _ hj (List.getElem?_eq_getElem (by omega))]; simp⟩
  rw [this]
theorem idxF_miss {p : S32 → Bool} {l : List S32} (h : ∀ (j : Nat) (y : S32), l[j]? = some y → p y = false) : idxF p l = -1 := by
  unfold idxF
  have : l.findIdx? p = none := by
    rw [List.findIdx?_eq_none_iff]
    intro x hx
    obtain ⟨j, hj, e⟩ := List.getElem_of_mem hx
    exact h j x (by rw [← e]; exact List.getElem?_eq_getElem hj)
  rw [this]
set_option maxHeartbeats 8000000 in
set_option maxRecDepth 100000 in
theorem slices_IndexFunc.own (g : Nat) (lb : Array Value) (p : S32 → Bool) (eg : ∀ args w, (callFunc g args).run Tryd.prog w = .ok (.enter g args) w) (A : Option Addr) (c : Nat) (l : List S32) (w : World)
    (base : Nat) (hbase : base ≤ w.heap.size) (hC : Kd.C k32 w A l.length l) (hp : PredF g lb p base w l) :
    Calls Tryd.prog 65 #[.slice A l.length c, .func (.func g) #[] lb] w fun e w' => e = .returned (.int .i64 (idxF p l)) ∧ Below w.heap.size w w' := by
  have hu32 := Tryd.underlying32
  have HR := Aside0.mk hC
  have HP := Aside0.mk hp
  have hlen : l.length ≤ 9223372036854775807 := hC.2.1
  clear hC hp
  go_enter Tryd.func65, Tryd.ntmps65
  go_wp2
  go_loopg [8] l.length (fun gg i wr => ∃ n : Nat, i = .int .i64 n ∧ n ≤ l.length ∧ l.length - n ≤ gg ∧ Aside0 (∀ (j : Nat) (y : S32), j < n → l[j]? = some y → p y = false) ∧ Aside0 (Below w.heap.size w wr))
  case atStart => exact ⟨0, rfl, by omega, by omega, ⟨fun j y h => absurd h (by omega)⟩, ⟨Below.refl _ _⟩⟩
  case round =>
    obtain ⟨n, rfl, hn, hgg, hA, hW⟩ := hrel
    by_cases hlt : n < l.length
    · have hx : l[n]? = some l[n] := List.getElem?_eq_getElem hlt
      have q1 : decide ((n : Int) < (l.length : Int)) = true := decide_eq_true (by omega)
      obtain ⟨ad, rfl, hx0, hx1⟩ := at_T32 HR.out (n : Int) (by omega) (by omega)
      replace hx0 := (hW.out.cell (World.block_lt_of_cell? w _ hx0)).trans hx0
      replace hx1 := (hW.out.cell (World.block_lt_of_cell? w _ hx1)).trans hx1
      have hr : rd_T32 l (n : Int) = l[n] := by unfold rd_T32; rw [Int.toNat_natCast, List.getD_eq_getElem?_getD, hx]; rfl
      rw [hr, Int.toNat_natCast] at hx0 hx1
      have hcall := HP.out _ (List.getElem_mem hlt) wr (hW.out.mono hbase)
      have p5 := eq_true (show (0 : Int) ≤ (n : Int) by omega)
      have q5 := eq_true (show (n : Int) < (l.length : Int) by omega)
      have HX := Aside0.mk hx
      clear hr hx
      generalize l[n] = x at *
      cases hq : p x with
      | true =>
        rw [hq] at hcall
        go_wp2_with (go_at_fn g; refine hcall.mono ?_; rintro e w' ⟨rfl, hb⟩)
        go_ret
        refine ⟨?_, hW.out.trans (hb.mono hW.out.size)⟩
        rw [idxF_hit HX.out hA.out hq]; rfl
      | false =>
        rw [hq] at hcall
        go_wp2_with (go_at_fn g; refine hcall.mono ?_; rintro e w' ⟨rfl, hb⟩)
        go_roundg (l.length - (n + 1))
        case measure => omega
        case rel =>
          refine ⟨n + 1, rfl, by omega, by omega, ⟨fun j y hj hy => ?_⟩, ⟨hW.out.trans (hb.mono hW.out.size)⟩⟩
          by_cases e : j = n
          · subst e
            rw [HX.out] at hy
            rw [← Option.some.inj hy]; exact hq
          · exact hA.out j y (by omega) hy
    · have q1 : decide ((n : Int) < (l.length : Int)) = false := decide_eq_false (by omega)
      go_wp2
      go_ret
      refine ⟨?_, hW.out⟩
      rw [idxF_miss (fun j y hy => hA.out j y (by have := (List.getElem?_eq_some_iff.1 hy).1; omega) hy)]; rfl


/-! ### slices_DeleteFuncL: function 43 -/
/-- clear of lines: the block's cells from i on are written. -/
theorem clear_lines {w : World} {B cap i n : Nat} {ys : List S32} (h : Row45 w B cap ys) (hi : i ≤ ys.length) (hn : n = ys.length - i) :
    ∃ w', (∀ ty c, (Builtin.clear_ #[22] ty #[.slice (some ⟨B, i * 2, none⟩) n c]).run Tryd.prog w = .ok (.tuple #[]) w') ∧ Row45 w' B cap (ys.take i) ∧ ∀ b a, Below b a w → b ≤ B → Below b a w' := by
  rcases Nat.eq_zero_or_pos n with h0 | h0
  · subst h0
    exact ⟨w, fun ty c => by simp [Builtin.clear_, run_underlying Tryd.underlying22], by rw [List.take_of_length_le (by omega)]; exact h, fun b a hb _ => hb⟩
  · have hv : ∀ w, (zeroValue 32).run Tryd.prog w = .ok (.agg #[.string ⟨#[]⟩, .string ⟨#[]⟩]) w := fun w => by kernel_rfl
    obtain ⟨zs, hzs⟩ : ∃ zs, zs = (Builtin.zeroCells (Value.agg #[.string ⟨#[]⟩, .string ⟨#[]⟩]).cells n).toList := ⟨_, rfl⟩
    have hzc : (Value.agg #[.string ⟨#[]⟩, .string ⟨#[]⟩]).cells = #[.string ⟨#[]⟩, .string ⟨#[]⟩] := by rfl
    have hzl : zs.length = n * 2 := by rw [hzs, hzc]; simp [Builtin.zeroCells]
    have hz1 : ∀ v ∈ zs, v.oneCell' = true := by
      intro v hv
      rw [hzs, hzc] at hv
      simp only [Builtin.zeroCells, Array.toList_map, List.mem_map] at hv
      obtain ⟨k, _, rfl⟩ := hv
      have : k % (#[Value.string ⟨#[]⟩, Value.string ⟨#[]⟩] : Array Value).size < 2 := Nat.mod_lt _ (by decide)
      generalize k % (#[Value.string ⟨#[]⟩, Value.string ⟨#[]⟩] : Array Value).size = m at *
      rcases m with _ | _ | m
      · rfl
      · rfl
      · omega
    have hcell : ∀ j, j < zs.length → (w.cell? ⟨B, i * 2 + j, none⟩).isSome = true := by
      obtain ⟨cur, h1, h2, h3, h4, h5⟩ := h
      intro j hj
      rw [blk_cell h1, Array.getElem?_eq_getElem (by omega)]; rfl
    have hst := run_storeCells_cells (P := Tryd.prog) B (i * 2) zs 0 w (by simpa using hcell) (fun j _ => h.free _) hz1
    simp only [Nat.add_zero] at hst
    refine ⟨w.setCells B (i * 2) zs, fun ty c => ?_, h.clear i zs hi, fun b a hb hB => below_setCells zs _ _ _ hb hB⟩
    obtain ⟨m, rfl⟩ : ∃ m, n = m + 1 := ⟨n - 1, by omega⟩
    simp [Builtin.clear_, run_underlying Tryd.underlying22, hv, ← hzs, hst]
theorem line_alloc {w w' : World} {x : S32} (hb : Below (w.alloc (Obj.cells #[Value.string x.f0, Value.string x.f1] 32)).heap.size (w.alloc (Obj.cells #[Value.string x.f0, Value.string x.f1] 32)) w') :
    w'.cell? ⟨w.heap.size, 0, none⟩ = some (.string x.f0) ∧ w'.cell? ⟨w.heap.size, 1, none⟩ = some (.string x.f1) := by
  have h : w.heap.size < (w.alloc (Obj.cells #[Value.string x.f0, Value.string x.f1] 32)).heap.size := by rw [World.size_alloc]; omega
  have hh : (w.alloc (Obj.cells #[Value.string x.f0, Value.string x.f1] 32)).heap[w.heap.size]? = some (.cells #[Value.string x.f0, Value.string x.f1] 32 (0, 0)) := by
    show (w.heap.push _)[w.heap.size]? = _
    simp
  exact ⟨by rw [hb.cell (p := ⟨w.heap.size, 0, none⟩) h, blk_cell hh]; rfl, by rw [hb.cell (p := ⟨w.heap.size, 1, none⟩) h, blk_cell hh]; rfl⟩
set_option maxHeartbeats 8000000 in
set_option maxRecDepth 100000 in
theorem slices_DeleteFunc.own (g : Nat) (lb : Array Value) (p : S32 → Bool) (eg : ∀ args w, (callFunc g args).run Tryd.prog w = .ok (.enter g args) w) (v : Value) (l : List S32) (w : World)
    (base : Nat) (hbase : base ≤ w.heap.size) (hR : Kd.R k32 32 w base (fun _ => True) v l) (hp : PredF g lb p base w l) :
    Calls Tryd.prog 43 #[v, .func (.func g) #[] lb] w fun e w' => ∃ v', e = .returned v' ∧ Kd.R k32 32 w' base (fun _ => True) v' (l.filter fun x => !p x) ∧ Below base w w' := by
  have hu32 := Tryd.underlying32
  obtain ⟨A, c, rfl, hlc, hC⟩ := Kd.R_reads hR
  have hI := slices_IndexFunc.own g lb p eg A c l w base hbase hC hp
  have hlen : l.length ≤ 9223372036854775807 := hC.2.1
  cases hix : l.findIdx? p with
  | none =>
    have HR := Aside0.mk hR
    clear hC hp hR
    have e1 : idxF p l = -1 := by unfold idxF; rw [hix]
    rw [e1] at hI
    have e2 : (l.filter fun x => !p x) = l := by
      rw [List.filter_eq_self]
      intro x hx
      have := (List.findIdx?_eq_none_iff.1 hix) x hx
      simp [this]
    rw [e2]
    go_enter Tryd.func43, Tryd.ntmps43
    go_wp2_with (go_at_call 65; refine hI.mono ?_; rintro e w' ⟨rfl, hb⟩)
    go_ret
    exact ⟨_, rfl, Kd.R_below HR.out hb, hb.mono hbase⟩
  | some i0 =>
    have e1 : idxF p l = (i0 : Int) := by unfold idxF; rw [hix]
    rw [e1] at hI
    obtain ⟨hi1, hi2, hi3⟩ := List.findIdx?_eq_some_iff_getElem.1 hix
    obtain ⟨B, rfl, hB, hrow⟩ := Row45.of_R hR (by omega)
    have HP := Aside0.mk hp
    have HW := Aside0.mk hrow
    clear hC hp hR hrow
    have q1 : ((i0 : Int) == -1) = false := beq_eq_false_iff_ne.2 (by omega)
    have hkeep0 : l.take i0 = (l.take (i0 + 1)).filter fun x => !p x := by
      rw [List.take_add_one, List.getElem?_eq_getElem hi1, List.filter_append]
      have e3 : (l.take i0).filter (fun x => !p x) = l.take i0 := by
        rw [List.filter_eq_self]
        intro x hx
        obtain ⟨k, hk, e⟩ := List.getElem_of_mem hx
        rw [List.length_take] at hk
        rw [List.getElem_take] at e
        have := hi3 k (by omega)
        rw [e] at this
        simpa using this
      rw [e3]; simp [hi2]
    go_enter Tryd.func43, Tryd.ntmps43
    go_wp2_with (go_at_call 65; refine hI.mono ?_; rintro e w' ⟨rfl, hb⟩)
    go_loopg [5, 6, 7] l.length (fun gg s5 s6 _ wr => ∃ (i j : Nat) (ys : List S32), s5 = .int .i64 i ∧ s6 = .int .i64 j ∧ i < j ∧ j ≤ l.length ∧ l.length - j ≤ gg ∧ ys.length = l.length ∧ Aside0 (ys.take i = (l.take j).filter fun x => !p x) ∧ Aside0 (ys.drop j = l.drop j) ∧ Aside0 (Row45 wr B c ys) ∧ Aside0 (Below base w wr))
    case atStart => exact ⟨i0, i0 + 1, l, rfl, rfl, by omega, by omega, by omega, rfl, ⟨hkeep0⟩, ⟨rfl⟩, ⟨HW.out.below hb⟩, ⟨hb.mono hbase⟩⟩
    case round =>
      clear HW hb hI
      obtain ⟨i, j, ys, rfl, rfl, hij, hjl, hgg, hyl, hA, hD, HW, hBl⟩ := hrel
      by_cases hlt : j < l.length
      · have hx : l[j]? = some l[j] := List.getElem?_eq_getElem hlt
        have hxy : ys[j]? = some l[j] := by
          have := congrArg (fun z => z[0]?) hD.out
          simp only [List.getElem?_drop, Nat.add_zero] at this
          rw [this]; exact hx
        obtain ⟨hx0, hx1⟩ := HW.out.get hxy
        obtain ⟨hy0, hy1⟩ := HW.out.get (List.getElem?_eq_getElem (show i < ys.length by omega))
        have hf0 := HW.out.free (i * 2)
        have hf1 := HW.out.free (i * 2 + 1)
        have q2 : decide ((j : Int) < (l.length : Int)) = true := decide_eq_true (by omega)
        have p5 := eq_true (show (0 : Int) ≤ (j : Int) by omega)
        have q5 := eq_true (show (j : Int) < (l.length : Int) by omega)
        have p6 := eq_true (show (0 : Int) ≤ (i : Int) by omega)
        have q6 := eq_true (show (i : Int) < (l.length : Int) by omega)
        have hcall := fun W hW => HP.out _ (List.getElem_mem hlt) W (hBl.out.trans hW)
        have hset := fun W (h : Row45 W B c ys) => h.set i l[j]
        have HX := Aside0.mk hx
        have hltB := HW.out.lt
        clear hx hxy hy0 hy1 hf0 hf1
        generalize hgen : l[j] = x at *
        have hv := fun (w' : World) (hb : Below (wr.alloc (Obj.cells #[Value.string x.f0, Value.string x.f1] 32)).heap.size (wr.alloc (Obj.cells #[Value.string x.f0, Value.string x.f1] 32)) w') => line_alloc hb
        have hrowN := fun (w' : World) (hb : Below (wr.alloc (Obj.cells #[Value.string x.f0, Value.string x.f1] 32)).heap.size (wr.alloc (Obj.cells #[Value.string x.f0, Value.string x.f1] 32)) w') => (HW.out.below ((Below.refl _ wr).alloc (Nat.le_refl _) _)).below hb
        have hBN := fun (w' : World) (hb : Below (wr.alloc (Obj.cells #[Value.string x.f0, Value.string x.f1] 32)).heap.size (wr.alloc (Obj.cells #[Value.string x.f0, Value.string x.f1] 32)) w') => (hBl.out.alloc (by omega) (Obj.cells #[Value.string x.f0, Value.string x.f1] 32)).trans (hb.mono (by rw [World.size_alloc]; omega))
        have HV := Aside0.mk hv
        have HRN := Aside0.mk hrowN
        have HBN := Aside0.mk hBN
        have HS := Aside0.mk hset
        clear hv hrowN hBN hset
        have hal := (Below.refl base wr).alloc (by omega) (Obj.cells #[Value.string x.f0, Value.string x.f1] 32)
        have hcall1 := hcall _ hal
        clear hcall hal
        cases hq : p x with
        | false =>
          rw [hq] at hcall1
          go_wp2_with (go_at_fn g; refine hcall1.mono ?_; rintro e w' ⟨rfl, hb⟩; obtain ⟨hv0, hv1⟩ := HV.out w' hb; have HW1 := Aside0.mk (HRN.out w' hb); have HB1 := Aside0.mk (HBN.out w' hb); clear hb; obtain ⟨hy0, hy1⟩ := HW1.out.get (List.getElem?_eq_getElem (show i < ys.length by omega)); have hf0 := HW1.out.free (i * 2); have hf1 := HW1.out.free (i * 2 + 1))
          go_roundg (l.length - (j + 1))
          case measure => omega
          case rel =>
            refine ⟨i + 1, j + 1, ys.set i x, rfl, rfl, by omega, by omega, by omega, by rw [List.length_set]; exact hyl, ⟨?_⟩, ⟨?_⟩, ⟨HS.out _ HW1.out⟩, ⟨(HB1.out.setCell hB _).setCell hB _⟩⟩
            · rw [List.take_add_one, List.getElem?_set_self (by omega), List.take_set_of_le (Nat.le_refl _), hA.out, List.take_add_one, HX.out, List.filter_append]; simp [hq]
            · have := congrArg (List.drop 1) hD.out
              rw [List.drop_drop, List.drop_drop] at this
              rw [List.drop_set_of_lt (by omega)]
              exact this
        | true =>
          rw [hq] at hcall1
          go_wp2_with (go_at_fn g; refine hcall1.mono ?_; rintro e w' ⟨rfl, hb⟩; have HW1 := Aside0.mk (HRN.out w' hb); have HB1 := Aside0.mk (HBN.out w' hb); clear hb)
          go_roundg (l.length - (j + 1))
          case measure => omega
          case rel =>
            refine ⟨i, j + 1, ys, rfl, rfl, by omega, by omega, by omega, hyl, ⟨?_⟩, ⟨?_⟩, HW1, HB1⟩
            · rw [hA.out, List.take_add_one, HX.out, List.filter_append]; simp [hq]
            · have := congrArg (List.drop 1) hD.out
              rw [List.drop_drop, List.drop_drop] at this
              exact this
      · obtain rfl : j = l.length := by omega
        have q2 : decide ((l.length : Int) < (l.length : Int)) = false := decide_eq_false (by omega)
        obtain ⟨wz, hz, hrz, hbz⟩ := clear_lines (i := i) (ys := ys) (n := l.length - i) HW.out (by omega) (by omega)
        have HZ := Aside0.mk hrz
        have HZB := Aside0.mk (hbz _ _ hBl.out hB)
        clear hrz hbz
        have p6 := eq_true (show (0 : Int) ≤ (i : Int) by omega)
        have q6 := eq_true (show (i : Int) ≤ (l.length : Int) by omega)
        go_wp2
        go_ret
        refine ⟨_, rfl, ?_, HZB.out⟩
        have e := HZ.out.to_R hB
        have hl2 : (ys.take i).length = i := by rw [List.length_take]; omega
        rw [hl2, hA.out, List.take_length] at e
        exact e


/-! ### head_has: function 46 -/
/-! #### a name among names -/
def PredS (g : Nat) (lb : Array Value) (p : ByteArray → Bool) (base : Nat) (w : World) (l : List ByteArray) : Prop :=
  ∀ x ∈ l, ∀ W, Below base w W → Calls Tryd.prog g (#[.string x] ++ lb) W fun e w' => e = .returned (.bool (p x)) ∧ Below W.heap.size W w'
theorem at_str {w : World} {A : Option Addr} {n : Nat} {xs : List ByteArray} (h : Kd.C Kd.string w A n xs) (i : Nat) (x : ByteArray) (hx : xs[i]? = some x) : ∃ ad, A = some ad ∧ w.cell? (ad.add i) = some (.string x) := by
  have hn := h.1
  have hi := (List.getElem?_eq_some_iff.1 hx).1
  obtain ⟨ad, e, hc⟩ := h.2.2 (by omega)
  obtain ⟨c, hl, hr, hcell⟩ := hc i x hx
  refine ⟨ad, e, ?_⟩
  have := hcell 0 (.string x) (by
    have e : c = [.string x] := hr
    rw [e]; rfl)
  simpa [Kd.string, Kd.scalar] using this
set_option maxHeartbeats 8000000 in
set_option maxRecDepth 100000 in
theorem slices_IndexFuncS.own (g : Nat) (lb : Array Value) (p : ByteArray → Bool) (eg : ∀ args w, (callFunc g args).run Tryd.prog w = .ok (.enter g args) w) (A : Option Addr) (c : Nat) (l : List ByteArray) (w : World)
    (base : Nat) (hbase : base ≤ w.heap.size) (hC : Kd.C Kd.string w A l.length l) (hp : PredS g lb p base w l) :
    Calls Tryd.prog 88 #[.slice A l.length c, .func (.func g) #[] lb] w fun e w' => ∃ i : Int, e = .returned (.int .i64 i) ∧ (decide (i ≥ 0) = l.any p) ∧ Below w.heap.size w w' := by
  have HR := Aside0.mk hC
  have HP := Aside0.mk hp
  have hlen : l.length ≤ 9223372036854775807 := hC.2.1
  clear hC hp
  go_enter Tryd.func88, Tryd.ntmps88
  go_wp2
  go_loopg [8] l.length (fun gg i wr => ∃ n : Nat, i = .int .i64 n ∧ n ≤ l.length ∧ l.length - n ≤ gg ∧ Aside0 (∀ (j : Nat) (y : ByteArray), j < n → l[j]? = some y → p y = false) ∧ Aside0 (Below w.heap.size w wr))
  case atStart => exact ⟨0, rfl, by omega, by omega, ⟨fun j y h => absurd h (by omega)⟩, ⟨Below.refl _ _⟩⟩
  case round =>
    obtain ⟨n, rfl, hn, hgg, hA, hW⟩ := hrel
    by_cases hlt : n < l.length
    · have hx : l[n]? = some l[n] := List.getElem?_eq_getElem hlt
      have q1 : decide ((n : Int) < (l.length : Int)) = true := decide_eq_true (by omega)
      obtain ⟨ad, rfl, hx0⟩ := at_str HR.out n _ hx
      replace hx0 := (hW.out.cell (World.block_lt_of_cell? w _ hx0)).trans hx0
      have hcall := HP.out _ (List.getElem_mem hlt) wr (hW.out.mono hbase)
      have p5 := eq_true (show (0 : Int) ≤ (n : Int) by omega)
      have q5 := eq_true (show (n : Int) < (l.length : Int) by omega)
      have HX := Aside0.mk hx
      clear hx
      generalize l[n] = x at *
      cases hq : p x with
      | true =>
        rw [hq] at hcall
        go_wp2_with (go_at_fn g; refine hcall.mono ?_; rintro e w' ⟨rfl, hb⟩)
        go_ret
        refine ⟨_, rfl, ?_, hW.out.trans (hb.mono hW.out.size)⟩
        have hm : x ∈ l := List.mem_of_getElem? HX.out
        rw [List.any_eq_true.2 ⟨x, hm, hq⟩]
        exact decide_eq_true (by omega)
      | false =>
        rw [hq] at hcall
        go_wp2_with (go_at_fn g; refine hcall.mono ?_; rintro e w' ⟨rfl, hb⟩)
        go_roundg (l.length - (n + 1))
        case measure => omega
        case rel =>
          refine ⟨n + 1, rfl, by omega, by omega, ⟨fun j y hj hy => ?_⟩, ⟨hW.out.trans (hb.mono hW.out.size)⟩⟩
          by_cases e : j = n
          · subst e
            rw [HX.out] at hy
            rw [← Option.some.inj hy]; exact hq
          · exact hA.out j y (by omega) hy
    · have q1 : decide ((n : Int) < (l.length : Int)) = false := decide_eq_false (by omega)
      go_wp2
      go_ret
      refine ⟨_, rfl, ?_, hW.out⟩
      have : l.any p = false := by
        rw [List.any_eq_false]
        intro y hy
        obtain ⟨j, hj, e⟩ := List.getElem_of_mem hy
        rw [hA.out j y (by omega) (by rw [← e]; exact List.getElem?_eq_getElem hj)]; simp
      rw [this]; rfl
set_option maxHeartbeats 8000000 in
set_option maxRecDepth 100000 in
theorem slices_ContainsFuncS.own (g : Nat) (lb : Array Value) (p : ByteArray → Bool) (eg : ∀ args w, (callFunc g args).run Tryd.prog w = .ok (.enter g args) w) (A : Option Addr) (c : Nat) (l : List ByteArray) (w : World)
    (base : Nat) (hbase : base ≤ w.heap.size) (hC : Kd.C Kd.string w A l.length l) (hp : PredS g lb p base w l) :
    Calls Tryd.prog 66 #[.slice A l.length c, .func (.func g) #[] lb] w fun e w' => e = .returned (.bool (l.any p)) ∧ Below w.heap.size w w' := by
  have hI := slices_IndexFuncS.own g lb p eg A c l w base hbase hC hp
  clear hC hp
  go_enter Tryd.func66, Tryd.ntmps66
  go_wp2_with (go_at_call 88; refine hI.mono ?_; rintro e w' ⟨i, rfl, hi, hb⟩)
  go_ret
  exact ⟨by rw [← hi]; simp [*], hb⟩
set_option maxHeartbeats 8000000 in
set_option maxRecDepth 100000 in
theorem head_has.lit (x : ByteArray) (nm : ByteArray) (B : Nat) (W : World) (b : Bool) (hc : W.cell? ⟨B, 0, none⟩ = some (.string nm))
    (hq : ∀ W, Calls Tryd.prog 33 #[.string x, .string nm] W fun e w' => e = .returned (.bool b) ∧ Below W.heap.size W w') :
    Calls Tryd.prog 67 (#[.string x] ++ #[.pointer (some ⟨B, 0, none⟩)]) W fun e w' => e = .returned (.bool b) ∧ Below W.heap.size W w' := by
  show Calls Tryd.prog 67 #[.string x, .pointer (some ⟨B, 0, none⟩)] W _
  go_enter Tryd.func67, Tryd.ntmps67
  go_wp2_with (go_at_call 33; refine (hq _).mono ?_; rintro e w' ⟨rfl, hb⟩)
  go_ret
  exact ⟨rfl, hb⟩
set_option maxHeartbeats 8000000 in
set_option maxRecDepth 100000 in
theorem head_has.own (A : Option Addr) (c : Nat) (l : List ByteArray) (nm : ByteArray) (w : World) (hC : Kd.C Kd.string w A l.length l) (q : ByteArray → Bool)
    (hq : ∀ x ∈ l, ∀ W, Calls Tryd.prog 33 #[.string x, .string nm] W fun e w' => e = .returned (.bool (q x)) ∧ Below W.heap.size W w') :
    Calls Tryd.prog 46 #[.slice A l.length c, .string nm] w fun e w' => e = .returned (.bool (l.any q)) ∧ Below w.heap.size w w' := by
  obtain ⟨w1, hw1⟩ : ∃ w1, w1 = w.alloc (.cells #[.string nm] 9) := ⟨_, rfl⟩
  have hs1 : w1.heap.size = w.heap.size + 1 := by rw [hw1, World.size_alloc]
  have hb1 : Below w.heap.size w w1 := by rw [hw1]; exact (Below.refl _ w).alloc (Nat.le_refl _) _
  have hcell : w1.cell? ⟨w.heap.size, 0, none⟩ = some (.string nm) := by
    rw [hw1]
    have hh : (w.alloc (Obj.cells #[Value.string nm] 9)).heap[w.heap.size]? = some (.cells #[Value.string nm] 9 (0, 0)) := by
      show (w.heap.push _)[w.heap.size]? = _
      simp
    rw [blk_cell hh]; rfl
  have hcf := slices_ContainsFuncS.own 67 #[.pointer (some ⟨w.heap.size, 0, none⟩)] q (enters_of Tryd.func67 (by kernel_rfl) rfl) A c l w1 w1.heap.size (Nat.le_refl _) (Kd.C_below hC hb1) (fun x hx W hW =>
      head_has.lit x nm w.heap.size W (q x) (by rw [hW.cell (p := ⟨w.heap.size, 0, none⟩) (by show w.heap.size < _; omega)]; exact hcell) (hq x hx))
  have HB := Aside0.mk hb1
  clear hcell hC hq hb1 hs1
  go_enter Tryd.func46, Tryd.ntmps46
  go_wp2_with (go_at_call 66; rw [← hw1]; refine hcf.mono ?_; rintro e w' ⟨rfl, hB⟩)
  go_ret
  exact ⟨rfl, HB.out.trans (hB.mono HB.out.size)⟩
theorem head_is_sameH (a b : ByteArray) (ha : Own.okS a = true) (hb : Own.okS b = true) : head_is.f a b = some (Own.same a b) := by
  unfold Own.okS at ha hb
  unfold head_is.f head_Lower.f
  rw [if_pos (of_decide_eq_true ha), if_pos (of_decide_eq_true hb)]
  rfl
def head_has.f (l0 : List ByteArray) (a1 : ByteArray) : Option Bool :=
  if Own.okS a1 = true ∧ (l0.all fun x => Own.okS x) = true then some (l0.any fun x => Own.same x a1) else none
theorem head_has.calls (A0 : Option Addr) (c0 : Nat) (l0 : List ByteArray) (a1 : ByteArray) (r : Bool) (w : World) (hr0 : Kd.C Kd.string w A0 l0.length l0) (hc0 : l0.length ≤ c0) (h : head_has.f l0 a1 = some r) :
    Calls Tryd.prog 46 #[.slice A0 l0.length c0, .string a1] w fun e w' => e = .returned (.bool r) ∧ Below w.heap.size w w' := by
  unfold head_has.f at h
  split at h
  · rename_i h1
    obtain ⟨h2, h3⟩ := h1
    obtain rfl := Option.some.inj h
    exact head_has.own A0 c0 l0 a1 w hr0 (fun x => Own.same x a1) (fun x hx W => head_is.calls x a1 _ W (head_is_sameH _ _ (List.all_eq_true.1 h3 x hx) h2))
  · cases h


/-! ### head_Merge: function 31 -/
set_option maxHeartbeats 8000000 in
set_option maxRecDepth 100000 in
theorem head_Merge.lit1 (x : S32) (A : Option Addr) (c : Nat) (l : List ByteArray) (B : Nat) (W : World) (b : Bool) (hc : W.cell? ⟨B, 0, none⟩ = some (.slice A l.length c)) (hC : Kd.C Kd.string W A l.length l)
    (hq : ∀ W, Kd.C Kd.string W A l.length l → Calls Tryd.prog 46 #[.slice A l.length c, .string x.f0] W fun e w' => e = .returned (.bool b) ∧ Below W.heap.size W w') :
    Calls Tryd.prog 45 (#[.agg #[.string x.f0, .string x.f1]] ++ #[.pointer (some ⟨B, 0, none⟩)]) W fun e w' => e = .returned (.bool b) ∧ Below W.heap.size W w' := by
  have hu32 := Tryd.underlying32
  have hlt : B < W.heap.size := World.block_lt_of_cell? W _ hc
  have hne : ¬ B = W.heap.size := by omega
  have hne' : ¬ W.heap.size = B := by omega
  have hc2 : (W.alloc (Obj.cells #[Value.string x.f0, Value.string x.f1] 32)).cell? ⟨B, 0, none⟩ = some (.slice A l.length c) := Lib.cell?_alloc_some _ hc
  have HC := Aside0.mk (Kd.C_below hC ((Below.refl _ W).alloc (Nat.le_refl _) (Obj.cells #[Value.string x.f0, Value.string x.f1] 32)))
  have HQ := Aside0.mk hq
  clear hC hq
  show Calls Tryd.prog 45 #[.agg #[.string x.f0, .string x.f1], .pointer (some ⟨B, 0, none⟩)] W _
  go_enter Tryd.func45, Tryd.ntmps45
  go_wp2_with (go_at_call 46; refine (HQ.out _ HC.out).mono ?_; rintro e w' ⟨rfl, hb⟩)
  go_ret
  exact ⟨rfl, ((Below.refl _ W).alloc (Nat.le_refl _) _).trans (hb.mono (by rw [World.size_alloc]; omega))⟩
set_option maxHeartbeats 8000000 in
set_option maxRecDepth 100000 in
theorem head_Merge.lit2 (x : S32) (A : Option Addr) (c : Nat) (l : List S32) (B : Nat) (W : World) (r : List ByteArray) (hc : W.cell? ⟨B, 0, none⟩ = some (.slice A l.length c)) (hC : Kd.C k32 W A l.length l)
    (hq : ∀ W, Kd.C k32 W A l.length l → Calls Tryd.prog 16 #[.slice A l.length c, .string x.f0] W fun e w' => ∃ v0_ : Value, e = .returned v0_ ∧ Kd.R Kd.string 9 w' W.heap.size (fun _ => True) v0_ r ∧ Below W.heap.size W w') :
    Calls Tryd.prog 47 (#[.agg #[.string x.f0, .string x.f1]] ++ #[.pointer (some ⟨B, 0, none⟩)]) W fun e w' => e = .returned (.bool (decide (0 < r.length))) ∧ Below W.heap.size W w' := by
  have hu32 := Tryd.underlying32
  have hlt : B < W.heap.size := World.block_lt_of_cell? W _ hc
  have hne : ¬ B = W.heap.size := by omega
  have hne' : ¬ W.heap.size = B := by omega
  have hc2 : (W.alloc (Obj.cells #[Value.string x.f0, Value.string x.f1] 32)).cell? ⟨B, 0, none⟩ = some (.slice A l.length c) := Lib.cell?_alloc_some _ hc
  have HC := Aside0.mk (Kd.C_below hC ((Below.refl _ W).alloc (Nat.le_refl _) (Obj.cells #[Value.string x.f0, Value.string x.f1] 32)))
  have HQ := Aside0.mk hq
  clear hC hq
  show Calls Tryd.prog 47 #[.agg #[.string x.f0, .string x.f1], .pointer (some ⟨B, 0, none⟩)] W _
  go_enter Tryd.func47, Tryd.ntmps47
  go_wp2_with (go_at_call 16; refine (HQ.out _ HC.out).mono ?_; rintro e w' ⟨v0, rfl, hr, hb⟩; obtain ⟨A2, c2, rfl, _, _⟩ := Kd.R_reads hr)
  go_ret
  exact ⟨by simp, ((Below.refl _ W).alloc (Nat.le_refl _) _).trans (hb.mono (by rw [World.size_alloc]; omega))⟩
theorem var_alloc (w : World) (v : Value) (t : TypeId) : (w.alloc (Obj.cells #[v] t)).cell? ⟨w.heap.size, 0, none⟩ = some v := by
  have hh : (w.alloc (Obj.cells #[v] t)).heap[w.heap.size]? = some (.cells #[v] t (0, 0)) := by
    show (w.heap.push _)[w.heap.size]? = _
    simp
  rw [blk_cell hh]; rfl
theorem var_facts {w w1 : World} {v : Value} {t : TypeId} (h : w1 = w.alloc (.cells #[v] t)) : w1.heap.size = w.heap.size + 1 ∧ Below w.heap.size w w1 ∧ w1.cell? ⟨w.heap.size, 0, none⟩ = some v := by
  subst h
  exact ⟨World.size_alloc .., (Below.refl _ w).alloc (Nat.le_refl _) _, var_alloc _ _ _⟩
set_option maxHeartbeats 8000000 in
set_option maxRecDepth 100000 in
theorem head_Merge.own (A0 A1 A2 : Option Addr) (c0 c1 c2 : Nat) (old now : List S32) (but : List ByteArray) (w : World) (h0 : Kd.C k32 w A0 old.length old) (g0 : old.length ≤ c0) (h1 : Kd.C k32 w A1 now.length now) (g1 : now.length ≤ c1) (h2 : Kd.C Kd.string w A2 but.length but)
    (hl : old.length + now.length < 4398046511104) (q : S32 → Bool) (al : S32 → List ByteArray)
    (hq : ∀ x ∈ now, ∀ W, Kd.C Kd.string W A2 but.length but → Calls Tryd.prog 46 #[.slice A2 but.length c2, .string x.f0] W fun e w' => e = .returned (.bool (q x)) ∧ Below W.heap.size W w')
    (ha : ∀ x ∈ old, ∀ W A c, Kd.C k32 W A (now.filter fun x => !q x).length (now.filter fun x => !q x) → (now.filter fun x => !q x).length ≤ c → Calls Tryd.prog 16 #[.slice A (now.filter fun x => !q x).length c, .string x.f0] W fun e w' => ∃ v0_ : Value, e = .returned v0_ ∧ Kd.R Kd.string 9 w' W.heap.size (fun _ => True) v0_ (al x) ∧ Below W.heap.size W w') :
    Calls Tryd.prog 31 #[.slice A0 old.length c0, .slice A1 now.length c1, .slice A2 but.length c2] w fun e w' => ∃ v, e = .returned v ∧ Kd.R k32 32 w' w.heap.size (fun _ => True) v ((old.filter fun x => !decide (0 < (al x).length)) ++ now.filter fun x => !q x) ∧ Below w.heap.size w w' := by
  obtain ⟨w1, hw1⟩ : ∃ w1, w1 = w.alloc (.cells #[.slice A2 but.length c2] 35) := ⟨_, rfl⟩
  have hs1 : w1.heap.size = w.heap.size + 1 := by rw [hw1, World.size_alloc]
  have hb1 : Below w.heap.size w w1 := by rw [hw1]; exact (Below.refl _ w).alloc (Nat.le_refl _) _
  have hcl1 := slices_Clone.own A1 c1 now w1 (Kd.C_below h1 hb1) g1 (by omega)
  have hcell1 : w1.cell? ⟨w.heap.size, 0, none⟩ = some (.slice A2 but.length c2) := by rw [hw1]; exact var_alloc _ _ _
  have hdel1 := fun (wa : World) (v1 : Value) (hB1 : Below w1.heap.size w1 wa) (hR1 : Kd.R k32 32 wa w1.heap.size (fun _ => True) v1 now) =>
    slices_DeleteFunc.own 45 #[.pointer (some ⟨w.heap.size, 0, none⟩)] q (enters_of Tryd.func45 (by kernel_rfl) rfl) v1 now wa w1.heap.size hB1.size hR1 (fun x hx W hW =>
      head_Merge.lit1 x A2 c2 but w.heap.size W (q x) (by rw [hW.cell (p := ⟨w.heap.size, 0, none⟩) (by show w.heap.size < _; omega), hB1.cell (p := ⟨w.heap.size, 0, none⟩) (by show w.heap.size < _; omega)]; exact hcell1)
        (Kd.C_below h2 (hb1.trans ((hB1.trans hW).mono (by omega)))) (hq x hx))
  have hcl2 := fun (wc : World) (hb : Below w.heap.size w wc) => slices_Clone.own A0 c0 old wc (Kd.C_below h0 hb) g0 (by omega)
  generalize hT : (now.filter fun x => !q x) = taken at *
  have hTl : taken.length ≤ now.length := by rw [← hT]; exact List.length_filter_le _ _
  have hdel2 := fun (wb wc wd : World) (v3 : Value) (At : Option Addr) (ct : Nat) (hct : taken.length ≤ ct) (hcell : wc.cell? ⟨wb.heap.size, 0, none⟩ = some (.slice At taken.length ct)) (hlt : wb.heap.size < wc.heap.size) (hC : Kd.C k32 wc At taken.length taken)
      (hB3 : Below wc.heap.size wc wd) (hR3 : Kd.R k32 32 wd wc.heap.size (fun _ => True) v3 old) =>
    slices_DeleteFunc.own 47 #[.pointer (some ⟨wb.heap.size, 0, none⟩)] (fun x => decide (0 < (al x).length)) (enters_of Tryd.func47 (by kernel_rfl) rfl) v3 old wd wc.heap.size hB3.size hR3 (fun x hx W hW =>
      head_Merge.lit2 x At ct taken wb.heap.size W (al x) (by rw [hW.cell (p := ⟨wb.heap.size, 0, none⟩) hlt, hB3.cell (p := ⟨wb.heap.size, 0, none⟩) hlt]; exact hcell)
        (Kd.C_below hC (hB3.trans hW)) (fun W hC => ha x hx W At ct hC hct))
  have HB := Aside0.mk hb1
  have HS := Aside0.mk hs1
  have HD1 := Aside0.mk hdel1
  have HD2 := Aside0.mk hdel2
  have HC2 := Aside0.mk hcl2
  clear hdel1 hdel2 hcl2 hcell1 h0 h1 h2 hq ha hb1 hs1
  go_enter Tryd.func31, Tryd.ntmps31
  go_wp2_with (first | (go_at_call 44; rw [← hw1]; refine hcl1.mono ?_; rintro e wa ⟨v1, rfl, hR1, hB1⟩; have hdd1 := HD1.out wa v1 hB1 hR1; have HBa := Aside0.mk hB1; clear hR1 hB1 hcl1) | (go_at_call 43; refine hdd1.mono ?_; rintro e wb ⟨v2, rfl, hR2, hB2⟩; clear hdd1; obtain ⟨At, ct, rfl, hct, hCt⟩ := Kd.R_reads hR2; have HBb := Aside0.mk (HB.out.trans ((HBa.out.trans hB2).mono (by have := HS.out; omega))); have HCt := Aside0.mk hCt; clear hR2 hB2 hCt) | (go_at_call 44; obtain ⟨wc, hwc⟩ : ∃ wc, wc = wb.alloc (Obj.cells #[Value.slice At taken.length ct] 22) := ⟨_, rfl⟩; rw [← hwc]; obtain ⟨hsc, hbb, hcc⟩ := var_facts hwc; have hbc : Below w.heap.size w wc := HBb.out.trans (hbb.mono HBb.out.size); have hCc := Kd.C_below HCt.out hbb; refine (HC2.out wc hbc).mono ?_; rintro e wd ⟨v3, rfl, hR3, hB3⟩; have hdd2 := HD2.out wb wc wd v3 At ct hct hcc (by omega) hCc hB3 hR3; have HBc := Aside0.mk hbc; have HBd := Aside0.mk hB3; have HCc := Aside0.mk hCc; have Hcc := Aside0.mk hcc; clear hR3 hB3 hbb hbc hCc hcc hwc) | (go_at_call 43; refine hdd2.mono ?_; rintro e we ⟨v4, rfl, hR4, hB4⟩; clear hdd2; have hbe := HBd.out.trans hB4; have hce : we.cell? ⟨wb.heap.size, 0, none⟩ = some (.slice At taken.length ct) := (by (rw [hbe.cell (p := ⟨wb.heap.size, 0, none⟩) (by show wb.heap.size < _; omega)]; exact Hcc.out)); have HCe := Aside0.mk (Kd.C_below HCc.out hbe); have HBe := Aside0.mk (HBc.out.trans (hbe.mono HBc.out.size)); have HRe := Aside0.mk (Kd.R_lower hR4 HBc.out.size); clear hR4 hB4 hbe) | ((with_reducible refine gate_builtin (b := .append) (xs := #[.tmp 17, .tmp 18]) rfl ?_); at_builtin; refine Kd.R_append_rows k32 (w0 := w) w.heap.size rfl (.tmp 17) (.tmp 18) 22 32 (.agg #[(.string ⟨#[]⟩), (.string ⟨#[]⟩)]) 32 rfl Tryd.underlying22 info32 rfl (by decide) (by omega) v4 (old.filter fun x => !decide (0 < (al x).length)) taken _ _ _ (fun _ => True) (fun _ => False) rfl rfl ?aO ?aR (fun _ _ h => h) (fun _ h => h.elim) ?aF ?aB ?aS ?aL ?_; (case aR => exact HCe.out); (case aB => exact HBe.out); (case aF => exact (fun _ _ => trivial)); (case aO => exact HRe.out); (case aS => exact HBe.out.size); (case aL => have := List.length_filter_le (fun x => !decide (0 < (al x).length)) old; omega); intro v5 wf ho hb hg hat; have HF := Aside0.mk hb; have HO := Aside0.mk ho; clear ho hb hg hat))
  go_ret
  exact ⟨_, rfl, HO.out, HF.out⟩
/-- The values of a name. -/
def allOf (l : List S32) (nm : ByteArray) : List ByteArray := (l.filter fun x => Own.same x.f0 nm).map (·.f1)
theorem head_is_sameM (a b : ByteArray) (ha : Own.okS a = true) (hb : Own.okS b = true) : head_is.f a b = some (Own.same a b) := by
  unfold Own.okS at ha hb
  unfold head_is.f head_Lower.f
  rw [if_pos (of_decide_eq_true ha), if_pos (of_decide_eq_true hb)]
  rfl
theorem head_All_from (l : List S32) (nm : ByteArray) (hl : l.length < 4398046511104) (hn : Own.okS nm = true) (ho : ∀ x ∈ l, Own.okS x.f0 = true) : ∀ (t : List S32) (i : Nat) (acc : List ByteArray), l.drop i = t → acc.length ≤ i →
    head_All.l0 (t.length + 1) nm acc l (l.length : Int) (i : Int) = some (acc ++ allOf t nm)
  | [], i, acc, ht, ha => by
    have h1 : l.length ≤ i := by
      rcases Nat.lt_or_ge i l.length with h | h
      · rw [List.drop_eq_getElem_cons h] at ht; cases ht
      · exact h
    unfold head_All.l0
    rw [if_neg (by omega)]
    simp [allOf]
  | x :: t, i, acc, ht, ha => by
    have hi : i < l.length := by
      rcases Nat.lt_or_ge i l.length with h | h
      · exact h
      · rw [List.drop_eq_nil_of_le h] at ht; cases ht
    rw [List.drop_eq_getElem_cons hi] at ht
    injection ht with hx ht
    have hr : rd_T32 l (i : Int) = x := by
      unfold rd_T32; rw [Int.toNat_natCast, List.getD_eq_getElem?_getD, List.getElem?_eq_getElem hi, hx]; rfl
    have hw : wrap64 ((i : Int) + 1) = ((i + 1 : Nat) : Int) := by unfold wrap64; omega
    have hm : x ∈ l := by rw [← hx]; exact List.getElem_mem hi
    have ih := fun acc ha => head_All_from l nm hl hn ho t (i + 1) acc ht ha
    show head_All.l0 (t.length + 1 + 1) nm acc l (l.length : Int) (i : Int) = _
    rw [head_All.l0, if_pos (by omega), if_pos (by omega), if_pos (by omega), hr, head_is_sameM _ _ (ho x hm) hn, hw, Option.bind_some]
    cases hs : Own.same x.f0 nm with
    | true =>
      rw [if_pos rfl, if_pos (by omega), ih _ (by rw [List.length_append, List.length_singleton]; omega)]
      simp [allOf, hs]
    | false =>
      rw [if_neg (by simp), ih _ (by omega)]
      simp [allOf, hs]
theorem head_All_is (l : List S32) (nm : ByteArray) (hl : l.length < 4398046511104) (hn : Own.okS nm = true) (ho : ∀ x ∈ l, Own.okS x.f0 = true) : head_All.f (l.length + 1) l nm = some (allOf l nm) := by
  have := head_All_from l nm hl hn ho l 0 [] rfl (Nat.le_refl 0)
  rw [List.nil_append] at this
  exact this
/-- The new lines that count. -/
def takenOf (now : List S32) (but : List ByteArray) : List S32 := now.filter fun x => !(but.any fun s => Own.same s x.f0)
def mergeOf (old now : List S32) (but : List ByteArray) : List S32 := (old.filter fun x => !decide (0 < (allOf (takenOf now but) x.f0).length)) ++ takenOf now but
def head_Merge.f (l0 : List S32) (l1 : List S32) (l2 : List ByteArray) : Option (List S32) :=
  if l0.length + l1.length < 4398046511104 ∧ (l0.all fun x => Own.okS x.f0) = true ∧ (l1.all fun x => Own.okS x.f0) = true ∧ (l2.all fun x => Own.okS x) = true then some (mergeOf l0 l1 l2) else none
theorem head_Merge.calls (A0 : Option Addr) (c0 : Nat) (l0 : List S32) (A1 : Option Addr) (c1 : Nat) (l1 : List S32) (A2 : Option Addr) (c2 : Nat) (l2 : List ByteArray) (r : List S32) (w : World) (hr0 : Kd.C k32 w A0 l0.length l0) (hc0 : l0.length ≤ c0) (hr1 : Kd.C k32 w A1 l1.length l1) (hc1 : l1.length ≤ c1) (hr2 : Kd.C Kd.string w A2 l2.length l2) (hc2 : l2.length ≤ c2) (h : head_Merge.f l0 l1 l2 = some r) :
    Calls Tryd.prog 31 #[.slice A0 l0.length c0, .slice A1 l1.length c1, .slice A2 l2.length c2] w fun e w' => ∃ v0_ : Value, e = .returned v0_ ∧ Kd.R k32 32 w' w.heap.size (fun _ => True) v0_ r ∧ Below w.heap.size w w' := by
  unfold head_Merge.f at h
  split at h
  · rename_i h1
    obtain ⟨h1, h3, h4, h5⟩ := h1
    obtain rfl := Option.some.inj h
    refine head_Merge.own A0 A1 A2 c0 c1 c2 l0 l1 l2 w hr0 hc0 hr1 hc1 hr2 h1 (fun x => l2.any fun s => Own.same s x.f0) (fun x => allOf (takenOf l1 l2) x.f0) (fun x hx W hC => ?_) (fun x hx W A c hC hc => ?_)
    · exact head_has.calls A2 c2 l2 x.f0 _ W hC hc2 (by unfold head_has.f; rw [if_pos ⟨List.all_eq_true.1 h4 x hx, h5⟩])
    · have hle : (takenOf l1 l2).length ≤ l1.length := List.length_filter_le _ _
      exact head_All.calls _ A c (takenOf l1 l2) x.f0 _ W hC hc (head_All_is _ _ (by omega) (List.all_eq_true.1 h3 x hx) (fun y hy => List.all_eq_true.1 h4 y (List.mem_filter.1 hy).1))
  · cases h


/-! ### use_kept: function 32 -/
def use_kept.f  : Option (List ByteArray) := some (([(⟨#[67, 111, 110, 116, 101, 110, 116, 45, 76, 101, 110, 103, 116, 104]⟩ : ByteArray), (⟨#[67, 111, 110, 116, 101, 110, 116, 45, 69, 110, 99, 111, 100, 105, 110, 103]⟩ : ByteArray), (⟨#[67, 111, 110, 116, 101, 110, 116, 45, 84, 121, 112, 101]⟩ : ByteArray), (⟨#[67, 111, 110, 116, 101, 110, 116, 45, 82, 97, 110, 103, 101]⟩ : ByteArray), (⟨#[67, 111, 110, 110, 101, 99, 116, 105, 111, 110]⟩ : ByteArray), (⟨#[75, 101, 101, 112, 45, 65, 108, 105, 118, 101]⟩ : ByteArray), (⟨#[84, 114, 97, 110, 115, 102, 101, 114, 45, 69, 110, 99, 111, 100, 105, 110, 103]⟩ : ByteArray), (⟨#[84, 69]⟩ : ByteArray), (⟨#[84, 114, 97, 105, 108, 101, 114]⟩ : ByteArray), (⟨#[85, 112, 103, 114, 97, 100, 101]⟩ : ByteArray), (⟨#[80, 114, 111, 120, 121, 45, 65, 117, 116, 104, 101, 110, 116, 105, 99, 97, 116, 101]⟩ : ByteArray), (⟨#[80, 114, 111, 120, 121, 45, 65, 117, 116, 104, 111, 114, 105, 122, 97, 116, 105, 111, 110]⟩ : ByteArray), (⟨#[83, 101, 116, 45, 67, 111, 111, 107, 105, 101]⟩ : ByteArray), (⟨#[86, 97, 114, 121]⟩ : ByteArray), (⟨#[78, 111, 45, 86, 97, 114, 121, 45, 83, 101, 97, 114, 99, 104]⟩ : ByteArray)] : List ByteArray))
set_option maxHeartbeats 2000000 in
set_option maxRecDepth 100000 in
theorem use_kept.calls  (r : List ByteArray) (w : World) (h : use_kept.f  = some r) :
    Calls Tryd.prog 32 #[] w fun e w' => ∃ v0_ : Value, e = .returned (v0_) ∧ Kd.R Kd.string 9 w' w.heap.size (fun _ => True) v0_ r ∧ Below w.heap.size w w' := by
  have HB := Aside0.mk (Below.refl w.heap.size w)
  have H : (some (([(⟨#[67, 111, 110, 116, 101, 110, 116, 45, 76, 101, 110, 103, 116, 104]⟩ : ByteArray), (⟨#[67, 111, 110, 116, 101, 110, 116, 45, 69, 110, 99, 111, 100, 105, 110, 103]⟩ : ByteArray), (⟨#[67, 111, 110, 116, 101, 110, 116, 45, 84, 121, 112, 101]⟩ : ByteArray), (⟨#[67, 111, 110, 116, 101, 110, 116, 45, 82, 97, 110, 103, 101]⟩ : ByteArray), (⟨#[67, 111, 110, 110, 101, 99, 116, 105, 111, 110]⟩ : ByteArray), (⟨#[75, 101, 101, 112, 45, 65, 108, 105, 118, 101]⟩ : ByteArray), (⟨#[84, 114, 97, 110, 115, 102, 101, 114, 45, 69, 110, 99, 111, 100, 105, 110, 103]⟩ : ByteArray), (⟨#[84, 69]⟩ : ByteArray), (⟨#[84, 114, 97, 105, 108, 101, 114]⟩ : ByteArray), (⟨#[85, 112, 103, 114, 97, 100, 101]⟩ : ByteArray), (⟨#[80, 114, 111, 120, 121, 45, 65, 117, 116, 104, 101, 110, 116, 105, 99, 97, 116, 101]⟩ : ByteArray), (⟨#[80, 114, 111, 120, 121, 45, 65, 117, 116, 104, 111, 114, 105, 122, 97, 116, 105, 111, 110]⟩ : ByteArray), (⟨#[83, 101, 116, 45, 67, 111, 111, 107, 105, 101]⟩ : ByteArray), (⟨#[86, 97, 114, 121]⟩ : ByteArray), (⟨#[78, 111, 45, 86, 97, 114, 121, 45, 83, 101, 97, 114, 99, 104]⟩ : ByteArray)] : List ByteArray))) = some r := h
  clear h
  obtain ⟨y125, hy125⟩ : ∃ y_ : List ByteArray, y_ = (([(⟨#[67, 111, 110, 116, 101, 110, 116, 45, 76, 101, 110, 103, 116, 104]⟩ : ByteArray), (⟨#[67, 111, 110, 116, 101, 110, 116, 45, 69, 110, 99, 111, 100, 105, 110, 103]⟩ : ByteArray), (⟨#[67, 111, 110, 116, 101, 110, 116, 45, 84, 121, 112, 101]⟩ : ByteArray), (⟨#[67, 111, 110, 116, 101, 110, 116, 45, 82, 97, 110, 103, 101]⟩ : ByteArray), (⟨#[67, 111, 110, 110, 101, 99, 116, 105, 111, 110]⟩ : ByteArray), (⟨#[75, 101, 101, 112, 45, 65, 108, 105, 118, 101]⟩ : ByteArray), (⟨#[84, 114, 97, 110, 115, 102, 101, 114, 45, 69, 110, 99, 111, 100, 105, 110, 103]⟩ : ByteArray), (⟨#[84, 69]⟩ : ByteArray), (⟨#[84, 114, 97, 105, 108, 101, 114]⟩ : ByteArray), (⟨#[85, 112, 103, 114, 97, 100, 101]⟩ : ByteArray), (⟨#[80, 114, 111, 120, 121, 45, 65, 117, 116, 104, 101, 110, 116, 105, 99, 97, 116, 101]⟩ : ByteArray), (⟨#[80, 114, 111, 120, 121, 45, 65, 117, 116, 104, 111, 114, 105, 122, 97, 116, 105, 111, 110]⟩ : ByteArray), (⟨#[83, 101, 116, 45, 67, 111, 111, 107, 105, 101]⟩ : ByteArray), (⟨#[86, 97, 114, 121]⟩ : ByteArray), (⟨#[78, 111, 45, 86, 97, 114, 121, 45, 83, 101, 97, 114, 99, 104]⟩ : ByteArray)] : List ByteArray)) := ⟨_, rfl⟩
  replace H : (some y125) = some r := by first | (rw [hy125]; with_reducible exact H) | (have H2_ := (Option.bind_some _ _).symm.trans H; rw [hy125]; with_reducible exact H2_) | (have H2_ := (Option.bind_some _ _).symm.trans H; with_reducible exact H2_) | with_reducible exact H | (rw [hy125]; exact H) | exact H
  have Ny125 := Aside0.mk hy125
  clear hy125
  obtain rfl := Option.some.inj H
  go_enter Tryd.func32, Tryd.ntmps32
  go_wp2_with (first | ((with_reducible refine gate_dst (N := 1) rfl ?_); refine Kd.R_lit Kd.string _ 9 ?hg (N := 1) ?hd (xs := ([(⟨#[67, 111, 110, 116, 101, 110, 116, 45, 76, 101, 110, 103, 116, 104]⟩ : ByteArray), (⟨#[67, 111, 110, 116, 101, 110, 116, 45, 69, 110, 99, 111, 100, 105, 110, 103]⟩ : ByteArray), (⟨#[67, 111, 110, 116, 101, 110, 116, 45, 84, 121, 112, 101]⟩ : ByteArray), (⟨#[67, 111, 110, 116, 101, 110, 116, 45, 82, 97, 110, 103, 101]⟩ : ByteArray), (⟨#[67, 111, 110, 110, 101, 99, 116, 105, 111, 110]⟩ : ByteArray), (⟨#[75, 101, 101, 112, 45, 65, 108, 105, 118, 101]⟩ : ByteArray), (⟨#[84, 114, 97, 110, 115, 102, 101, 114, 45, 69, 110, 99, 111, 100, 105, 110, 103]⟩ : ByteArray), (⟨#[84, 69]⟩ : ByteArray), (⟨#[84, 114, 97, 105, 108, 101, 114]⟩ : ByteArray), (⟨#[85, 112, 103, 114, 97, 100, 101]⟩ : ByteArray), (⟨#[80, 114, 111, 120, 121, 45, 65, 117, 116, 104, 101, 110, 116, 105, 99, 97, 116, 101]⟩ : ByteArray), (⟨#[80, 114, 111, 120, 121, 45, 65, 117, 116, 104, 111, 114, 105, 122, 97, 116, 105, 111, 110]⟩ : ByteArray), (⟨#[83, 101, 116, 45, 67, 111, 111, 107, 105, 101]⟩ : ByteArray), (⟨#[86, 97, 114, 121]⟩ : ByteArray), (⟨#[78, 111, 45, 86, 97, 114, 121, 45, 83, 101, 97, 114, 99, 104]⟩ : ByteArray)] : List ByteArray)) (inner := [.string (⟨#[67, 111, 110, 116, 101, 110, 116, 45, 76, 101, 110, 103, 116, 104]⟩ : ByteArray), .string (⟨#[67, 111, 110, 116, 101, 110, 116, 45, 69, 110, 99, 111, 100, 105, 110, 103]⟩ : ByteArray), .string (⟨#[67, 111, 110, 116, 101, 110, 116, 45, 84, 121, 112, 101]⟩ : ByteArray), .string (⟨#[67, 111, 110, 116, 101, 110, 116, 45, 82, 97, 110, 103, 101]⟩ : ByteArray), .string (⟨#[67, 111, 110, 110, 101, 99, 116, 105, 111, 110]⟩ : ByteArray), .string (⟨#[75, 101, 101, 112, 45, 65, 108, 105, 118, 101]⟩ : ByteArray), .string (⟨#[84, 114, 97, 110, 115, 102, 101, 114, 45, 69, 110, 99, 111, 100, 105, 110, 103]⟩ : ByteArray), .string (⟨#[84, 69]⟩ : ByteArray), .string (⟨#[84, 114, 97, 105, 108, 101, 114]⟩ : ByteArray), .string (⟨#[85, 112, 103, 114, 97, 100, 101]⟩ : ByteArray), .string (⟨#[80, 114, 111, 120, 121, 45, 65, 117, 116, 104, 101, 110, 116, 105, 99, 97, 116, 101]⟩ : ByteArray), .string (⟨#[80, 114, 111, 120, 121, 45, 65, 117, 116, 104, 111, 114, 105, 122, 97, 116, 105, 111, 110]⟩ : ByteArray), .string (⟨#[83, 101, 116, 45, 67, 111, 111, 107, 105, 101]⟩ : ByteArray), .string (⟨#[86, 97, 114, 121]⟩ : ByteArray), .string (⟨#[78, 111, 45, 86, 97, 114, 121, 45, 83, 101, 97, 114, 99, 104]⟩ : ByteArray)]) (ok := fun _ => True) (okp := fun _ => True) ?hr ?hp (fun _ hk => hk) trivial (Below.refl _ _) (Nat.le_refl _) (by simp) ?_; (case hd => rfl); (case hg => rfl); (case hr => first | (go_simp; done) | (go_simp; rfl)); (case hp => exact (Reps.one (show Kd.M Kd.string _ _ _ (⟨#[67, 111, 110, 116, 101, 110, 116, 45, 76, 101, 110, 103, 116, 104]⟩ : ByteArray) [.string (⟨#[67, 111, 110, 116, 101, 110, 116, 45, 76, 101, 110, 103, 116, 104]⟩ : ByteArray)] from rfl) (Reps.one (show Kd.M Kd.string _ _ _ (⟨#[67, 111, 110, 116, 101, 110, 116, 45, 69, 110, 99, 111, 100, 105, 110, 103]⟩ : ByteArray) [.string (⟨#[67, 111, 110, 116, 101, 110, 116, 45, 69, 110, 99, 111, 100, 105, 110, 103]⟩ : ByteArray)] from rfl) (Reps.one (show Kd.M Kd.string _ _ _ (⟨#[67, 111, 110, 116, 101, 110, 116, 45, 84, 121, 112, 101]⟩ : ByteArray) [.string (⟨#[67, 111, 110, 116, 101, 110, 116, 45, 84, 121, 112, 101]⟩ : ByteArray)] from rfl) (Reps.one (show Kd.M Kd.string _ _ _ (⟨#[67, 111, 110, 116, 101, 110, 116, 45, 82, 97, 110, 103, 101]⟩ : ByteArray) [.string (⟨#[67, 111, 110, 116, 101, 110, 116, 45, 82, 97, 110, 103, 101]⟩ : ByteArray)] from rfl) (Reps.one (show Kd.M Kd.string _ _ _ (⟨#[67, 111, 110, 110, 101, 99, 116, 105, 111, 110]⟩ : ByteArray) [.string (⟨#[67, 111, 110, 110, 101, 99, 116, 105, 111, 110]⟩ : ByteArray)] from rfl) (Reps.one (show Kd.M Kd.string _ _ _ (⟨#[75, 101, 101, 112, 45, 65, 108, 105, 118, 101]⟩ : ByteArray) [.string (⟨#[75, 101, 101, 112, 45, 65, 108, 105, 118, 101]⟩ : ByteArray)] from rfl) (Reps.one (show Kd.M Kd.string _ _ _ (⟨#[84, 114, 97, 110, 115, 102, 101, 114, 45, 69, 110, 99, 111, 100, 105, 110, 103]⟩ : ByteArray) [.string (⟨#[84, 114, 97, 110, 115, 102, 101, 114, 45, 69, 110, 99, 111, 100, 105, 110, 103]⟩ : ByteArray)] from rfl) (Reps.one (show Kd.M Kd.string _ _ _ (⟨#[84, 69]⟩ : ByteArray) [.string (⟨#[84, 69]⟩ : ByteArray)] from rfl) (Reps.one (show Kd.M Kd.string _ _ _ (⟨#[84, 114, 97, 105, 108, 101, 114]⟩ : ByteArray) [.string (⟨#[84, 114, 97, 105, 108, 101, 114]⟩ : ByteArray)] from rfl) (Reps.one (show Kd.M Kd.string _ _ _ (⟨#[85, 112, 103, 114, 97, 100, 101]⟩ : ByteArray) [.string (⟨#[85, 112, 103, 114, 97, 100, 101]⟩ : ByteArray)] from rfl) (Reps.one (show Kd.M Kd.string _ _ _ (⟨#[80, 114, 111, 120, 121, 45, 65, 117, 116, 104, 101, 110, 116, 105, 99, 97, 116, 101]⟩ : ByteArray) [.string (⟨#[80, 114, 111, 120, 121, 45, 65, 117, 116, 104, 101, 110, 116, 105, 99, 97, 116, 101]⟩ : ByteArray)] from rfl) (Reps.one (show Kd.M Kd.string _ _ _ (⟨#[80, 114, 111, 120, 121, 45, 65, 117, 116, 104, 111, 114, 105, 122, 97, 116, 105, 111, 110]⟩ : ByteArray) [.string (⟨#[80, 114, 111, 120, 121, 45, 65, 117, 116, 104, 111, 114, 105, 122, 97, 116, 105, 111, 110]⟩ : ByteArray)] from rfl) (Reps.one (show Kd.M Kd.string _ _ _ (⟨#[83, 101, 116, 45, 67, 111, 111, 107, 105, 101]⟩ : ByteArray) [.string (⟨#[83, 101, 116, 45, 67, 111, 111, 107, 105, 101]⟩ : ByteArray)] from rfl) (Reps.one (show Kd.M Kd.string _ _ _ (⟨#[86, 97, 114, 121]⟩ : ByteArray) [.string (⟨#[86, 97, 114, 121]⟩ : ByteArray)] from rfl) (Reps.one (show Kd.M Kd.string _ _ _ (⟨#[78, 111, 45, 86, 97, 114, 121, 45, 83, 101, 97, 114, 99, 104]⟩ : ByteArray) [.string (⟨#[78, 111, 45, 86, 97, 114, 121, 45, 83, 101, 97, 114, 99, 104]⟩ : ByteArray)] from rfl) (Reps.none _ _))))))))))))))))); intro v126 w1 ho2 hb hg_ hnew_; clear hg_ hnew_; (first | rw [← Ny125.out] at ho2 | (simp only [Int.reduceToNat] at ho2; rw [← Ny125.out] at ho2)); have n0_ := Aside0.mk (Kd.R_lower ho2 (below_size (by repeat (first | (with_reducible first | exact HB.out | apply below_alloc | apply pw_below_drewN | apply below_drew1) | exact HB.out)))); have n1_ := Aside0.mk (below_step (by repeat (first | (with_reducible first | exact HB.out | apply below_alloc | apply pw_below_drewN | apply below_drew1) | exact HB.out)) hb); clear HB; have HO127 := n0_; have HB := n1_; clear n0_ n1_; clear hb ho2))
  go_ret
  exact ⟨_, by first | rfl | (simp [errW_none, errW_some] <;> rfl) | (simp [*, errW_none, errW_some] <;> rfl), by (with_reducible repeat (first | apply Kd.R_alloc | apply Kd.R_drewN | apply Kd.R_drew)); exact HO127.out, by repeat (first | (with_reducible first | exact HB.out | apply below_alloc | apply pw_below_drewN | apply below_drew1) | exact HB.out)⟩

/-! ### use_Renew: function 15 -/
def use_Renew.f (l0 : List (S32)) (l1 : List (S32)) : Option ((List (S32))) := (use_kept.f).bind fun t128 => ((head_Merge.f l0 l1 t128).bind fun t131 => (some t131))
set_option maxHeartbeats 2000000 in
set_option maxRecDepth 100000 in
theorem use_Renew.calls (A0 : Option Addr) (c0 : Nat) (l0 : List (S32)) (A1 : Option Addr) (c1 : Nat) (l1 : List (S32)) (r : List (S32)) (w : World) (hr0 : Kd.C k32 w A0 l0.length l0) (hc0 : l0.length ≤ c0) (hr1 : Kd.C k32 w A1 l1.length l1) (hc1 : l1.length ≤ c1) (h : use_Renew.f l0 l1 = some r) :
    Calls Tryd.prog 15 #[.slice A0 l0.length c0, .slice A1 l1.length c1] w fun e w' => ∃ v0_ : Value, e = .returned (v0_) ∧ Kd.R k32 32 w' w.heap.size (fun _ => True) v0_ r ∧ Below w.heap.size w w' := by
  have HR0 := Aside0.mk hr0
  have HC0 := Aside0.mk hc0
  clear hr0 hc0
  have HR1 := Aside0.mk hr1
  have HC1 := Aside0.mk hc1
  clear hr1 hc1
  have HB := Aside0.mk (Below.refl w.heap.size w)
  have H : ((use_kept.f).bind fun t128 => ((head_Merge.f l0 l1 t128).bind fun t131 => (some t131))) = some r := h
  clear h
  replace H := Option.bind_eq_some_iff.mp H
  obtain ⟨t128, A30, H⟩ := H
  replace H : ((head_Merge.f l0 l1 t128).bind fun t131 => (some t131)) = some r := H
  have A3 := Aside0.mk A30
  clear A30
  replace H := Option.bind_eq_some_iff.mp H
  obtain ⟨t131, A40, H⟩ := H
  replace H : (some t131) = some r := H
  have A4 := Aside0.mk A40
  clear A40
  obtain rfl := Option.some.inj H
  go_enter Tryd.func15, Tryd.ntmps15
  go_wp2_with (first | ((with_reducible refine gate_callee (f := 32) rfl ?_); refine goesL_ (some 7) rfl rfl Tryd.func32 (by kernel_rfl) rfl #[] rfl (by (try simp only [List.map_toArray, List.map_cons, List.map_nil]); first | done | rfl | (simp only [List.length_drop, List.length_take]; rfl)) ?_; (with_reducible refine (use_kept.calls  t128 _ A3.out).mono ?_); rintro e w5 ⟨v129, rfl, ho0, hb⟩; refine ⟨_, rfl, ?_⟩; have n0_ := Aside0.mk (Kd.R_lower ho0 (below_size (by repeat (first | (with_reducible first | exact HB.out | apply below_alloc | apply pw_below_drewN | apply below_drew1) | exact HB.out)))); have n1_ := Aside0.mk (below_step (by repeat (first | (with_reducible first | exact HB.out | apply below_alloc | apply pw_below_drewN | apply below_drew1) | exact HB.out)) hb); clear HB; have HO130 := n0_; have HB := n1_; clear n0_ n1_; (try clear hb); (try clear hb2); (try clear hk); (try clear hi); (try clear ho0); obtain ⟨Ao6, co6, eo6⟩ := Kd.R_slice HO130.out; subst eo6) | ((with_reducible refine gate_callee (f := 31) rfl ?_); refine goesL_ (some 8) rfl rfl Tryd.func31 (by kernel_rfl) rfl #[.slice A0 l0.length c0, .slice A1 l1.length c1, .slice Ao6 t128.length co6] rfl (by (try simp only [List.map_toArray, List.map_cons, List.map_nil]); first | done | rfl | (simp only [List.length_drop, List.length_take]; rfl)) ?_; (with_reducible refine (head_Merge.calls _ _ l0 _ _ l1 _ _ t128 t131 _ ?side1 ?side2 ?side3 ?side4 ?side5 ?side6 A4.out).mono ?_); (case side1 => repeat (first | exact (Kd.C_below HR0.out HB.out) | (with_reducible refine Kd.C_alloc ?_ _) | (with_reducible refine Kd.C_drewN ?_ _) | (with_reducible refine Kd.C_drew ?_))); (case side2 => exact HC0.out); (case side3 => repeat (first | exact (Kd.C_below HR1.out HB.out) | (with_reducible refine Kd.C_alloc ?_ _) | (with_reducible refine Kd.C_drewN ?_ _) | (with_reducible refine Kd.C_drew ?_))); (case side4 => exact HC1.out); (case side5 => repeat (first | exact (Kd.R_reads' HO130.out).2.2 | (with_reducible refine Kd.C_alloc ?_ _) | (with_reducible refine Kd.C_drewN ?_ _) | (with_reducible refine Kd.C_drew ?_))); (case side6 => exact (Kd.R_reads' HO130.out).2.1); rintro e w7 ⟨v132, rfl, ho0, hb⟩; refine ⟨_, rfl, ?_⟩; have n0_ := Aside0.mk (Kd.R_below (by (with_reducible repeat (first | apply Kd.R_alloc | apply Kd.R_drewN | apply Kd.R_drew)); exact HO130.out) hb); have n1_ := Aside0.mk (Kd.R_lower ho0 (below_size (by repeat (first | (with_reducible first | exact HB.out | apply below_alloc | apply pw_below_drewN | apply below_drew1) | exact HB.out)))); have n2_ := Aside0.mk (below_step (by repeat (first | (with_reducible first | exact HB.out | apply below_alloc | apply pw_below_drewN | apply below_drew1) | exact HB.out)) hb); clear HO130; clear HB; have HO130 := n0_; have HO133 := n1_; have HB := n2_; clear n0_ n1_ n2_; (try clear hb); (try clear hb2); (try clear hk); (try clear hi); (try clear ho0)))
  go_ret
  exact ⟨_, by first | rfl | (simp [errW_none, errW_some] <;> rfl) | (simp [*, errW_none, errW_some] <;> rfl), by (with_reducible repeat (first | apply Kd.R_alloc | apply Kd.R_drewN | apply Kd.R_drew)); exact HO133.out, by repeat (first | (with_reducible first | exact HB.out | apply below_alloc | apply pw_below_drewN | apply below_drew1) | exact HB.out)⟩

/-! ### sprref_Has: function 17 -/
def sprref_Has.l0 : Nat → List ByteArray → ByteArray → Int → Option (Bool)
  | 0, _, _, _ => none
  | k + 1, x0, x1, x5 => if x5 < (x0.length : Int) then (if 0 ≤ x5 then (if (rdOf ByteArray.empty x0 x5).toList = x1.toList then (some true) else (sprref_Has.l0 k x0 x1 (wrap64 (x5 + 1)))) else (none)) else (some false)
def sprref_Has.f (k : Nat) (l0 : List ByteArray) (a1 : ByteArray) : Option (Bool) := sprref_Has.l0 k l0 a1 0
theorem sprref_Has.mono_l : ∀ k, (∀ y0 y1 y2, LeO (sprref_Has.l0 k y0 y1 y2) (sprref_Has.l0 (k + 1) y0 y1 y2))
  | 0 => fun _ _ _ r h => by simp [sprref_Has.l0] at h
  | k + 1 => by
    have ih0 := sprref_Has.mono_l k
    · intro y0 y1 y2
      unfold sprref_Has.l0
      repeat' first
      | (with_reducible exact ih0 _ _ _)
      | (with_reducible exact LeO.refl _)
      | (with_reducible exact LeO.none _)
      | (with_reducible refine LeO.ite ?_ ?_)
      | (with_reducible refine LeO.bind ?_ (fun _ => ?_))
      | exact ih0 _ _ _
      | exact LeO.none _
      | refine LeO.ite ?_ ?_
      | refine LeO.bind ?_ (fun _ => ?_)
theorem sprref_Has.mono : ∀ a0 a1 k, LeO (sprref_Has.f k a0 a1) (sprref_Has.f (k + 1) a0 a1) := by
  intro a0 a1 k
  have ih0 := sprref_Has.mono_l k
  unfold sprref_Has.f
  repeat' first
      | (with_reducible exact ih0 _ _ _)
      | (with_reducible exact LeO.refl _)
      | (with_reducible exact LeO.none _)
      | (with_reducible refine LeO.ite ?_ ?_)
      | (with_reducible refine LeO.bind ?_ (fun _ => ?_))
      | exact ih0 _ _ _
      | exact LeO.none _
      | refine LeO.ite ?_ ?_
      | refine LeO.bind ?_ (fun _ => ?_)
set_option maxHeartbeats 2000000 in
set_option maxRecDepth 100000 in
theorem sprref_Has.calls (k : Nat) (A0 : Option Addr) (c0 : Nat) (l0 : List ByteArray) (a1 : ByteArray) (r : Bool) (w : World) (hr0 : Kd.C Kd.string w A0 l0.length l0) (hc0 : l0.length ≤ c0) (h : sprref_Has.f k l0 a1 = some r) :
    Calls Tryd.prog 17 #[.slice A0 l0.length c0, .string a1] w fun e w' => e = .returned (.bool r) ∧ Drawn0 w w' := by
  have HR0 := Aside0.mk hr0
  have HC0 := Aside0.mk hc0
  clear hr0 hc0
  have H : (sprref_Has.l0 k l0 a1 0) = some r := h
  clear h
  have H' := Aside0.mk H
  clear H
  go_enter Tryd.func17, Tryd.ntmps17
  go_wp2
  go_loopg [5] k (fun kq v5 w' => ∃ (x5_1 : Int), v5 = .int .i64 x5_1 ∧ Aside0 (sprref_Has.l0 kq l0 a1 x5_1 = some r) ∧ Aside0 (kq ≤ k) ∧ Drawn0 w w')
  case atStart => exact ⟨(0), (by first | rfl | (simp; done) | (simp [*]; done)), H', ⟨Nat.le_refl _⟩, by repeat (first | exact Drawn0.refl _ | apply Drawn0.step)⟩
  case round =>
    clear H'
    try clear c1
    try clear p2
    obtain ⟨x5_1, rfl, HA, HK1, ⟨m1, rfl⟩⟩ := hrel
    cases gk with
    | zero => exact absurd HA.out (by simp [sprref_Has.l0])
    | succ k1 =>
      have H := HA.out
      clear HA
      simp only [sprref_Has.l0] at H
      by_cases c3 : x5_1 < (l0.length : Int)
      · rw [if_pos c3] at H
        have c3b0 : decide (x5_1 < (l0.length : Int)) = true := decide_eq_true c3
        clear c3
        by_cases c4 : 0 ≤ x5_1
        · rw [if_pos c4] at H
          have c4b0 : decide (0 ≤ x5_1) = true := decide_eq_true c4
          clear c4
          by_cases c5 : (rdOf ByteArray.empty l0 x5_1).toList = a1.toList
          · rw [if_pos c5] at H
            have c5b0 : ((rdOf ByteArray.empty l0 x5_1).toList == a1.toList) = true := beq_iff_eq.mpr c5
            have c5b1 : ((rdOf ByteArray.empty l0 x5_1).toList != a1.toList) = false := bne_eq_false_iff_eq.mpr c5
            clear c5
            obtain rfl := Option.some.inj H
            have p134 : 0 ≤ (x5_1 : Int) := of_decide_eq_true (by first | (with_reducible assumption) | assumption)
            have q134 : x5_1 < (l0.length : Int) := of_decide_eq_true (by first | (with_reducible assumption) | assumption)
            obtain ⟨ad134, e134, hx134_0⟩ := Kd.at_string HR0.out x5_1 p134 q134
            cases e134
            replace p134 := eq_true p134
            replace q134 := eq_true q134
            go_wp2
            go_ret
            exact ⟨by first | rfl | (simp; done) | (simp [*]; done), by repeat (first | exact Drawn0.refl _ | apply Drawn0.step)⟩
          · rw [if_neg c5] at H
            have c5b0 : ((rdOf ByteArray.empty l0 x5_1).toList == a1.toList) = false := beq_eq_false_iff_ne.mpr c5
            have c5b1 : ((rdOf ByteArray.empty l0 x5_1).toList != a1.toList) = true := bne_iff_ne.mpr c5
            have H' := Aside0.mk H
            clear H
            have p134 : 0 ≤ (x5_1 : Int) := of_decide_eq_true (by first | (with_reducible assumption) | assumption)
            have q134 : x5_1 < (l0.length : Int) := of_decide_eq_true (by first | (with_reducible assumption) | assumption)
            obtain ⟨ad134, e134, hx134_0⟩ := Kd.at_string HR0.out x5_1 p134 q134
            cases e134
            replace p134 := eq_true p134
            replace q134 := eq_true q134
            go_wp2
            go_roundg k1
            case measure => have := HK1.out; omega
            case rel => exact ⟨(wrap64 (x5_1 + 1)), (by first | rfl | (simp; done) | (simp [*]; done)), H', ⟨by have := HK1.out; omega⟩, by repeat (first | exact Drawn0.refl _ | apply Drawn0.step)⟩
        · rw [if_neg c4] at H
          exact absurd H (by simp)
      · rw [if_neg c3] at H
        have c3b0 : decide (x5_1 < (l0.length : Int)) = false := decide_eq_false c3
        clear c3
        obtain rfl := Option.some.inj H
        go_wp2
        go_ret
        exact ⟨by first | rfl | (simp; done) | (simp [*]; done), by repeat (first | exact Drawn0.refl _ | apply Drawn0.step)⟩

end Go.Proofs.YtdikhinmlpihdaaDoor.R
