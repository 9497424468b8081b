/-
The law VarySides, in its second form: lines match themselves but of a star; either way round; lines of names that are not asked for count for nothing; a rule's names rise.
-/
import Derived.Test.YtnmmlcjcilfgkaaDoorV6
set_option linter.unusedVariables false
set_option linter.unusedSimpArgs false
namespace Go.Proofs.YtnmmlcjcilfgkaaDoor.Pure
open Go.RowKit Go.Proofs.YtnmmlcjcilfgkaaDoor.V Go.Proofs.YtnmmlcjcilfgkaaDoorW.PrintWords Go.Proofs.YtnmmlcjcilfgkaaDoorW.PrintLast
theorem wrap_id {x : Int} (h0 : -9223372036854775808 ≤ x) (h1 : x ≤ 9223372036854775807) : wrap64 x = x := by unfold wrap64; omega
theorem Ev.succ {α : Type} {g : Nat → Option α} {r : α} (h : Ev (fun k => g (k + 1)) r) : Ev g r := Ev.step (fun _ => rfl) h
theorem Ev.konst {α : Type} {o : Option α} {r : α} (h : o = some r) : Ev (fun _ => o) r := ⟨0, fun _ _ => h⟩
theorem Ev.at {α : Type} {g : Nat → Option α} {r : α} (K : Nat) (h : ∀ k, g (k + K) = some r) : Ev g r := ⟨K, fun n hn => by
  obtain ⟨m, rfl⟩ : ∃ m, n = m + K := ⟨n - K, by omega⟩
  exact h m⟩
theorem drop_cons {α : Type} {l : List α} {i : Nat} {c : α} {t : List α} (h : l.drop i = c :: t) : i < l.length ∧ l[i]? = some c ∧ l.drop (i + 1) = t := by
  have h1 : (l.drop i)[0]? = some c := by rw [h]; rfl
  rw [List.getElem?_drop] at h1
  simp only [Nat.add_zero] at h1
  refine ⟨(List.getElem?_eq_some_iff.1 h1).1, h1, ?_⟩
  rw [← List.drop_drop, h]; rfl
theorem drop_nil {α : Type} {l : List α} {i : Nat} (h : l.drop i = []) : l.length ≤ i := by
  simpa using h
theorem rd_of {l : List Int} {i : Nat} {c : Int} (h : l[i]? = some c) : rd l (i : Int) = c := by
  unfold rd; rw [Int.toNat_natCast, List.getD_eq_getElem?_getD, h]; rfl
theorem rdOf_of {α : Type} {d : α} {l : List α} {i : Nat} {c : α} (h : l[i]? = some c) : rdOf d l (i : Int) = c := by
  unfold rdOf; rw [Int.toNat_natCast, List.getD_eq_getElem?_getD, h]; rfl
theorem cast_succ (i : Nat) : ((i : Int) + 1) = ((i + 1 : Nat) : Int) := by omega
theorem Ev.tell {α : Type} {a r : α} (h : a = r) : Ev (fun _ => some a) r := h ▸ Ev.now a
theorem Ev.pos {α : Type} {c : Prop} [Decidable c] {A B : Nat → Option α} {r : α} (h : c) (k : Ev A r) : Ev (fun n => if c then A n else B n) r := Ev.congr (fun _ => if_pos h) k
theorem Ev.neg {α : Type} {c : Prop} [Decidable c] {A B : Nat → Option α} {r : α} (h : ¬ c) (k : Ev B r) : Ev (fun n => if c then A n else B n) r := Ev.congr (fun _ => if_neg h) k
theorem Ev.ite {α : Type} {c : Prop} [Decidable c] {A B : Nat → Option α} {r : α} (h : c → Ev A r) (k : ¬ c → Ev B r) : Ev (fun n => if c then A n else B n) r := by
  by_cases q : c
  · exact Ev.pos q (h q)
  · exact Ev.neg q (k q)
theorem Ev.bnd {α β : Type} {o : Option β} {a : β} {f : Nat → β → Option α} {r : α} (h : o = some a) (k : Ev (fun n => f n a) r) : Ev (fun n => o.bind (f n)) r := by
  subst h; exact k
/-- A text's bytes. -/
def B (s : ByteArray) : List UInt8 := s.data.toList
def mk (l : List UInt8) : ByteArray := ⟨l.toArray⟩
theorem B_mk (l : List UInt8) : B (mk l) = l := rfl
theorem mk_B (s : ByteArray) : mk (B s) = s := rfl
theorem B_inj {s t : ByteArray} (h : B s = B t) : s = t := by rw [← mk_B s, ← mk_B t, h]
theorem toList_B (s : ByteArray) : s.toList = B s := Lib.toList_data s
theorem size_B (s : ByteArray) : s.size = (B s).length := Lib.size_eq s
theorem B_extract (s : ByteArray) (a b : Nat) : B (s.extract a b) = ((B s).drop a).take (b - a) := Lib.extract_data s a b
theorem B_append (s t : ByteArray) : B (s ++ t) = B s ++ B t := by
  unfold B
  rw [ByteArray.data_append, Array.toList_append]
theorem B_to (s : ByteArray) (n : Nat) : B (s.extract 0 n) = (B s).take n := by rw [B_extract, List.drop_zero, Nat.sub_zero]
theorem B_from (s : ByteArray) (n : Nat) : B (s.extract n s.size) = (B s).drop n := by
  rw [B_extract, size_B]
  exact List.take_of_length_le (by rw [List.length_drop]; omega)
theorem bt_of {s : ByteArray} {i : Nat} {c : UInt8} (h : (B s)[i]? = some c) : bt s (i : Int) = (c.toNat : Int) := by
  unfold bt
  have hi : i < s.size := by rw [size_B]; exact (List.getElem?_eq_some_iff.1 h).1
  rw [Int.toNat_natCast, dif_pos hi]
  have : (s[i]'hi) = c := by
    have h1 : (B s)[i]? = some (s[i]'hi) := by
      unfold B
      rw [Array.getElem?_toList]
      exact Array.getElem?_eq_getElem _
    rw [h1] at h
    exact Option.some.inj h
  rw [this]
/-- The byte that a suffix begins with. -/
theorem bt_drop {s : ByteArray} {i : Nat} {c : UInt8} {t : List UInt8} (h : (B s).drop i = c :: t) : bt s (i : Int) = (c.toNat : Int) ∧ i < s.size ∧ (B s).drop (i + 1) = t := by
  obtain ⟨h1, h2, h3⟩ := drop_cons h
  exact ⟨bt_of h2, by rw [size_B]; exact h1, h3⟩
theorem end_drop {s : ByteArray} {i : Nat} (h : (B s).drop i = []) : s.size ≤ i := by rw [size_B]; exact drop_nil h
theorem u8_eq (c : UInt8) (n : Nat) (h : n < 256) : ((c.toNat : Int) = (n : Int)) ↔ c = UInt8.ofNat n := by
  constructor
  · intro e
    have e' : c.toNat = n := by omega
    rw [← e']; exact (UInt8.ofNat_toNat).symm
  · intro e
    rw [e, UInt8.toNat_ofNat']
    have : n % 2 ^ 8 = n := Nat.mod_eq_of_lt h
    omega
theorem u8_lt (c : UInt8) : (c.toNat : Int) < 256 ∧ 0 ≤ (c.toNat : Int) := by
  have := UInt8.toNat_lt c
  omega
/-! names in small letters -/
theorem lowb_low (c : UInt8) : Own.lowb (Own.lowb c) = Own.lowb c := by
  by_cases h : 65 ≤ c.toNat ∧ c.toNat ≤ 90
  · have e : Own.lowb c = c + 32 := by unfold Own.lowb; rw [if_pos h]
    have h2 : (c + 32).toNat = c.toNat + 32 := by
      rw [UInt8.toNat_add]
      show (c.toNat + 32) % 256 = _
      omega
    rw [e]
    unfold Own.lowb
    rw [if_neg (by omega)]
  · have e : Own.lowb c = c := by unfold Own.lowb; rw [if_neg h]
    rw [e, e]
theorem low_low (s : ByteArray) : Own.low (Own.low s) = Own.low s := by
  apply B_inj
  show ((s.data.toList.map Own.lowb).map Own.lowb) = s.data.toList.map Own.lowb
  rw [List.map_map]
  congr 1
  funext c
  exact lowb_low c
theorem low_size (s : ByteArray) : (Own.low s).size = s.size := by
  rw [size_B, size_B s]
  show (s.data.toList.map Own.lowb).length = _
  rw [List.length_map]; rfl
/-- The values of a name. -/
def allOf (l : List S36) (nm : ByteArray) : List ByteArray := (l.filter fun x => Own.same x.f0 nm).map (·.f1)
theorem head_is_sameM (a b : ByteArray) (ha : Own.okS a = true) (hb : Own.okS b = true) : head_is.f a b = some (Own.same a b) := by
  unfold Own.okS at ha hb
  unfold head_is.f head_Lower.f
  rw [if_pos (of_decide_eq_true ha), if_pos (of_decide_eq_true hb)]
  rfl
theorem head_All_from (l : List S36) (nm : ByteArray) (hl : l.length < 4398046511104) (hn : Own.okS nm = true) (ho : ∀ x ∈ l, Own.okS x.f0 = true) : ∀ (t : List S36) (i : Nat) (acc : List ByteArray), l.drop i = t → acc.length ≤ i →
    head_All.l0 (t.length + 1) nm acc l (l.length : Int) (i : Int) = some (acc ++ allOf t nm)
  | [], i, acc, ht, ha => by
    have h1 : l.length ≤ i := by
      rcases Nat.lt_or_ge i l.length with h | h
      · rw [List.drop_eq_getElem_cons h] at ht; cases ht
      · exact h
    unfold head_All.l0
    rw [if_neg (by omega)]
    simp [allOf]
  | x :: t, i, acc, ht, ha => by
    have hi : i < l.length := by
      rcases Nat.lt_or_ge i l.length with h | h
      · exact h
      · rw [List.drop_eq_nil_of_le h] at ht; cases ht
    rw [List.drop_eq_getElem_cons hi] at ht
    injection ht with hx ht
    have hr : rd_T36 l (i : Int) = x := by
      unfold rd_T36; rw [Int.toNat_natCast, List.getD_eq_getElem?_getD, List.getElem?_eq_getElem hi, hx]; rfl
    have hw : wrap64 ((i : Int) + 1) = ((i + 1 : Nat) : Int) := by unfold wrap64; omega
    have hm : x ∈ l := by rw [← hx]; exact List.getElem_mem hi
    have ih := fun acc ha => head_All_from l nm hl hn ho t (i + 1) acc ht ha
    show head_All.l0 (t.length + 1 + 1) nm acc l (l.length : Int) (i : Int) = _
    rw [head_All.l0, if_pos (by omega), if_pos (by omega), if_pos (by omega), hr, head_is_sameM _ _ (ho x hm) hn, hw, Option.bind_some]
    cases hs : Own.same x.f0 nm with
    | true =>
      rw [if_pos rfl, if_pos (by omega), ih _ (by rw [List.length_append, List.length_singleton]; omega)]
      simp [allOf, hs]
    | false =>
      rw [if_neg (by simp), ih _ (by omega)]
      simp [allOf, hs]
theorem head_All_is (l : List S36) (nm : ByteArray) (hl : l.length < 4398046511104) (hn : Own.okS nm = true) (ho : ∀ x ∈ l, Own.okS x.f0 = true) : head_All.f (l.length + 1) l nm = some (allOf l nm) := by
  have := head_All_from l nm hl hn ho l 0 [] rfl (Nat.le_refl 0)
  rw [List.nil_append] at this
  exact this
theorem Texts_loop (a b : List ByteArray) (hl : a.length = b.length) (hb : a.length ≤ 1000000000) : ∀ (s t : List ByteArray) (i : Nat), a.drop i = s → b.drop i = t → Ev (fun k => sprref_Texts.l0 k a b i) (decide (s = t))
  | [], t, i, hs, ht => by
    have h1 := drop_nil hs
    have h2 : t = [] := by rw [← ht]; exact List.drop_eq_nil_of_le (by omega)
    subst h2
    exact Ev.step (fun _ => sprref_Texts.l0.eq_2 ..) (Ev.neg (by omega) (Ev.now _))
  | c :: s, [], i, hs, ht => by
    have h1 := drop_nil ht
    have h2 := drop_cons hs
    omega
  | c :: s, d :: t, i, hs, ht => by
    obtain ⟨h1, h2, h3⟩ := drop_cons hs
    obtain ⟨g1, g2, g3⟩ := drop_cons ht
    refine Ev.step (fun _ => sprref_Texts.l0.eq_2 ..) (Ev.pos (by omega) (Ev.pos (by omega) (Ev.pos (by omega) ?_)))
    rw [rdOf_of h2, rdOf_of g2, toList_B, toList_B]
    by_cases e : c = d
    · refine Ev.pos (by rw [e]) ?_
      rw [wrap_id (by omega) (by omega), cast_succ]
      have := Texts_loop a b hl hb s t (i + 1) h3 g3
      simpa [e] using this
    · refine Ev.neg (fun h => e (B_inj h)) ?_
      exact Ev.konst (by simp [e])
theorem Texts_ok (a b : List ByteArray) (hb : a.length ≤ 1000000000) : Ev (fun k => sprref_Texts.f k a b) (decide (a = b)) := by
  unfold sprref_Texts.f
  by_cases h : a.length = b.length
  · exact Ev.pos (by omega) (Texts_loop a b h hb a b 0 rfl rfl)
  · refine Ev.neg (by omega) (Ev.konst ?_)
    have : a ≠ b := fun e => h (by rw [e])
    simp [this]
theorem CopyFields_ok (l : List S36) (h : l.length ≤ 1000000000) : sprref_CopyFields.f l = some l := by
  unfold sprref_CopyFields.f
  simp only [Option.bind_some, List.length_nil, Nat.zero_add, List.nil_append]
  rw [if_pos (by omega)]
theorem same_iff (a b : ByteArray) : Own.same a b = true ↔ Own.low a = Own.low b := by
  unfold Own.same
  rw [toList_B, toList_B, beq_iff_eq]
  exact ⟨B_inj, fun h => by rw [h]⟩
theorem same_congr {a a' b b' : ByteArray} (h1 : Own.low a = Own.low a') (h2 : Own.low b = Own.low b') : Own.same a b = Own.same a' b' := by
  rw [Bool.eq_iff_iff, same_iff, same_iff, h1, h2]
theorem same_low (a b : ByteArray) : Own.same a (Own.low b) = Own.same a b := same_congr rfl (low_low b)
theorem same_self (a : ByteArray) : Own.same a a = true := (same_iff a a).2 rfl
theorem okS_of {s : ByteArray} (h : s.size ≤ 9223372036854775807) : Own.okS s = true := decide_eq_true h
instance : DecidableEq S36 := fun a b => decidable_of_iff (a.f0 = b.f0 ∧ a.f1 = b.f1) ⟨fun h => by cases a; cases b; cases h.1; cases h.2; rfl, fun h => by rw [h]; exact ⟨rfl, rfl⟩⟩
/-- Lines that the form lets in. -/
def okL (l : List S36) : Prop := ∀ x ∈ l, x.f0.size ≤ 9223372036854775807 ∧ x.f1.size ≤ 9223372036854775807
theorem okL.all {l : List S36} (h : okL l) : (l.all fun x => Own.okS x.f0) = true := List.all_eq_true.2 fun x hx => okS_of (h x hx).1
theorem okL.filter {l : List S36} (h : okL l) (p : S36 → Bool) : okL (l.filter p) := fun x hx => h x (List.mem_filter.1 hx).1
theorem okL.append {l m : List S36} (h : okL l) (k : okL m) : okL (l ++ m) := fun x hx => (List.mem_append.1 hx).elim (h x) (k x)
theorem allOf_append (l m : List S36) (n : ByteArray) : allOf (l ++ m) n = allOf l n ++ allOf m n := by
  unfold allOf; rw [List.filter_append, List.map_append]
theorem allOf_nil_iff (l : List S36) (n : ByteArray) : allOf l n = [] ↔ ∀ x ∈ l, Own.same x.f0 n = false := by
  unfold allOf
  rw [List.map_eq_nil_iff, List.filter_eq_nil_iff]
  exact ⟨fun h x hx => by simpa using h x hx, fun h x hx => by simpa using h x hx⟩
theorem allOf_congr (l : List S36) {a b : ByteArray} (h : Own.low a = Own.low b) : allOf l a = allOf l b := by
  unfold allOf
  congr 2
  funext x
  exact same_congr rfl h
theorem allOf_len (l : List S36) (n : ByteArray) : (allOf l n).length ≤ l.length := by
  unfold allOf; rw [List.length_map]; exact List.length_filter_le _ _
theorem All_ok {l : List S36} (hl : l.length < 4398046511104) (ho : okL l) {n : ByteArray} (hn : n.size ≤ 9223372036854775807) : Ev (fun k => head_All.f k l n) (allOf l n) :=
  Ev.of (fun k => head_All.mono _ _ k) (head_All_is l n hl (okS_of hn) (fun x hx => okS_of (ho x hx).1))
/-- Lines of which a law speaks: few, and what has a name is short. -/
structure LinesOk (l : List S36) : Prop where
  len : l.length ≤ 400
  okL : okL l
  val : ∀ x ∈ l, 1 ≤ x.f0.size → x.f1.size ≤ 1100000
theorem same_size {a b : ByteArray} (h : Own.same a b = true) : a.size = b.size := by
  have := congrArg ByteArray.size ((same_iff a b).1 h)
  rwa [low_size, low_size] at this
theorem LinesOk.all {l : List S36} (h : LinesOk l) (n : ByteArray) (hn : 1 ≤ n.size) : (allOf l n).length ≤ 400 ∧ ∀ s ∈ allOf l n, s.size ≤ 1100000 := by
  refine ⟨Nat.le_trans (allOf_len l n) h.len, fun s hs => ?_⟩
  unfold allOf at hs
  obtain ⟨x, hx, rfl⟩ := List.mem_map.1 hs
  have hx := List.mem_filter.1 hx
  exact h.val x hx.1 (by have := same_size hx.2; omega)
theorem LinesOk.of {l : List S36} (g : l.length ≤ maxLen ∧ ∀ x ∈ l, x.f0.size ≤ maxLen ∧ x.f1.size ≤ maxLen) (h : l.length ≤ 80 ∧ ∀ x ∈ l, 1 ≤ x.f0.size → x.f1.size ≤ 20000) : LinesOk l :=
  ⟨by omega, fun x hx => g.2 x hx, fun x hx h1 => by have := h.2 x hx h1; omega⟩
theorem sum_lines : ∀ (l : List S36), l.length ≤ (l.map fun y => ((y.f0.size + 1) + (y.f1.size + 1) + 1)).sum ∧ ∀ x ∈ l, x.f0.size + x.f1.size + 3 ≤ (l.map fun y => ((y.f0.size + 1) + (y.f1.size + 1) + 1)).sum
  | [] => by simp
  | x :: t => by
    obtain ⟨h1, h2⟩ := sum_lines t
    simp only [List.map_cons, List.sum_cons, List.length_cons]
    refine ⟨by omega, fun s hs => ?_⟩
    rcases List.mem_cons.1 hs with rfl | hs
    · omega
    · have := h2 s hs; omega
theorem Few_ok (l : List S36) : ∃ b, Ev (fun k => sprlaw13_Few.f k l) b ∧ (b = true → l.length ≤ 80 ∧ ∀ x ∈ l, 1 ≤ x.f0.size → x.f1.size ≤ 20000) := by
  obtain ⟨b, hb, h⟩ := Few_loop l l 0 0 rfl (by omega) (by omega) (by omega)
  exact ⟨b, hb, fun e => ⟨(h e).1, (h e).2.2⟩⟩
where
  Few_loop (l : List S36) : ∀ (t : List S36) (i : Nat) (n : Int), l.drop i = t → 0 ≤ n → n ≤ 80000 → i ≤ 80 → ∃ b, Ev (fun k => sprlaw13_Few.l0 k l n (i : Int)) b ∧ (b = true → l.length ≤ 80 ∧ n ≤ 20000 ∧ ∀ x ∈ t, 1 ≤ x.f0.size → x.f1.size ≤ 20000)
  | [], i, n, h, h0, h1, hi => by
    have := drop_nil h
    by_cases hl : l.length ≤ 80
    · refine ⟨_, Ev.step (fun _ => sprlaw13_Few.l0.eq_2 ..) (Ev.neg (by omega) (Ev.pos (by omega) (Ev.now _))), fun hb => ⟨hl, ?_, by simp⟩⟩
      exact of_decide_eq_true hb
    · exact ⟨false, Ev.step (fun _ => sprlaw13_Few.l0.eq_2 ..) (Ev.neg (by omega) (Ev.neg (by omega) (Ev.now _))), fun h => by cases h⟩
  | x :: t, i, n, h, h0, h1, hi => by
    obtain ⟨a1, a2, a3⟩ := drop_cons h
    have hx : rd_T36 l (i : Int) = x := by
      unfold rd_T36; rw [Int.toNat_natCast, List.getD_eq_getElem?_getD, a2]; rfl
    by_cases h80 : i < 80
    · have q1 : 0 ≤ mn ((rd_T36 l (i : Int)).f0.size : Int) 20000 ∧ mn ((rd_T36 l (i : Int)).f0.size : Int) 20000 ≤ 20000 ∧ (1 ≤ (rd_T36 l (i : Int)).f0.size → 1 ≤ mn ((rd_T36 l (i : Int)).f0.size : Int) 20000) := by
        unfold mn; split <;> omega
      have q2 : 0 ≤ mn ((rd_T36 l (i : Int)).f1.size : Int) 20000 ∧ mn ((rd_T36 l (i : Int)).f1.size : Int) 20000 ≤ 20000 ∧ (mn ((rd_T36 l (i : Int)).f1.size : Int) 20000 ≤ 19999 → (rd_T36 l (i : Int)).f1.size ≤ 20000) := by
        unfold mn; split <;> omega
      have q3 : ∀ z : Int, 0 ≤ z → 0 ≤ mn z 80000 ∧ mn z 80000 ≤ 80000 ∧ (mn z 80000 ≤ 20000 → z ≤ 20000) := by intro z _; unfold mn; split <;> omega
      rw [hx] at q1 q2
      generalize hv1 : mn (x.f0.size : Int) 20000 = v1 at q1
      generalize hv2 : mn (x.f1.size : Int) 20000 = v2 at q2
      obtain ⟨z0, z1, z2⟩ := q3 (n + v1 + v2) (by omega)
      obtain ⟨b, hb, hf⟩ := Few_loop l t (i + 1) (mn (n + v1 + v2) 80000) a3 z0 z1 (by omega)
      refine ⟨b, Ev.step (fun _ => sprlaw13_Few.l0.eq_2 ..) (Ev.pos (by omega) (Ev.pos (by omega) (Ev.pos (by omega) ?_))), fun e => ?_⟩
      · rw [wrap_id (x := (i : Int) + 1) (by omega) (by omega), cast_succ, hx, hv1, hv2, wrap_id (x := n + v1) (by omega) (by omega), wrap_id (x := n + v1 + v2) (by omega) (by omega)]
        exact hb
      · obtain ⟨e1, e2, e3⟩ := hf e
        have e2 := z2 e2
        refine ⟨e1, by omega, fun y hy => ?_⟩
        rcases List.mem_cons.1 hy with rfl | hy
        · intro h1; exact q2.2.2 (by have := q1.2.2 h1; omega)
        · exact e3 y hy
    · refine ⟨false, Ev.step (fun _ => sprlaw13_Few.l0.eq_2 ..) (Ev.pos (by omega) (Ev.neg (by omega) (Ev.neg (by omega) (Ev.now _)))), fun h => by cases h⟩
def blank (c : UInt8) : Bool := ([32, 9] : List UInt8).contains c
/-- Blanks and tabs at both ends away. -/
def tr (l : List UInt8) : List UInt8 := Lib.trimS l [32, 9]
def rdw (p : UInt8 → Bool) (l : List UInt8) : List UInt8 := (l.reverse.dropWhile p).reverse
theorem rdw_cons (p : UInt8 → Bool) (x : UInt8) (t : List UInt8) : rdw p (x :: t) = if rdw p t = [] then (if p x = true then [] else [x]) else x :: rdw p t := by
  unfold rdw
  rw [List.reverse_cons, List.dropWhile_append]
  by_cases h : (t.reverse.dropWhile p) = []
  · rw [h]
    by_cases hx : p x = true <;> simp [hx, List.dropWhile]
  · have h' : ¬ (t.reverse.dropWhile p).reverse = [] := fun e => h (List.reverse_eq_nil_iff.1 e)
    rw [if_neg h', if_neg (by simpa using h)]
    simp
theorem rdw_comm (p : UInt8 → Bool) : ∀ l : List UInt8, (rdw p l).dropWhile p = rdw p (l.dropWhile p)
  | [] => rfl
  | x :: t => by
    have ih := rdw_comm p t
    by_cases hx : p x = true
    · rw [List.dropWhile_cons, if_pos hx, ← ih, rdw_cons]
      by_cases h : rdw p t = []
      · rw [if_pos h, if_pos hx, h]
      · rw [if_neg h, List.dropWhile_cons, if_pos hx]
    · rw [List.dropWhile_cons, if_neg hx, rdw_cons]
      by_cases h : rdw p t = []
      · rw [if_pos h, if_neg hx, List.dropWhile_cons, if_neg hx]
      · rw [if_neg h, List.dropWhile_cons, if_neg hx]
theorem tr_eq (l : List UInt8) : tr l = rdw blank (l.dropWhile blank) := by
  rw [← rdw_comm]; rfl
theorem tr_nil : tr [] = [] := rfl
theorem length_dropWhile_le (p : UInt8 → Bool) : ∀ l : List UInt8, (l.dropWhile p).length ≤ l.length
  | [] => Nat.le_refl _
  | x :: t => by
    rw [List.dropWhile_cons]
    have := length_dropWhile_le p t
    split <;> simp only [List.length_cons] <;> omega
theorem tr_len (l : List UInt8) : (tr l).length ≤ l.length := by
  rw [tr_eq]
  unfold rdw
  have h1 := length_dropWhile_le blank (l.dropWhile blank).reverse
  have h2 := length_dropWhile_le blank l
  simp only [List.length_reverse] at h1 ⊢
  omega
/-- Nothing blank at the ends: it stays. -/
theorem dropWhile_idem (p : UInt8 → Bool) : ∀ l : List UInt8, (l.dropWhile p).dropWhile p = l.dropWhile p
  | [] => rfl
  | x :: t => by
    by_cases hx : p x = true
    · rw [List.dropWhile_cons, if_pos hx]; exact dropWhile_idem p t
    · rw [List.dropWhile_cons, if_neg hx, List.dropWhile_cons, if_neg hx]
theorem tr_tr (l : List UInt8) : tr (tr l) = tr l := by
  have e : ∀ m, tr m = (rdw blank m).dropWhile blank := fun m => by rw [tr_eq, rdw_comm]
  have r2 : ∀ m, rdw blank (rdw blank m) = rdw blank m := fun m => by unfold rdw; rw [List.reverse_reverse, dropWhile_idem]
  rw [e (tr l), tr_eq l, r2, rdw_comm, dropWhile_idem]
/-- Where the first piece ends, from a state on. -/
def pc : Bool → List UInt8 → Nat
  | _, [] => 0
  | q, c :: t =>
    if c = 34 then 1 + pc (!q) t
    else if q = true ∧ c = 92 then (match t with | [] => 1 | _ :: u => 2 + pc q u)
    else if c = 44 ∧ q = false then 0
    else 1 + pc q t
theorem pc_cons (q : Bool) (c : UInt8) (t : List UInt8) : pc q (c :: t) = if c = 34 then 1 + pc (!q) t else if q = true ∧ c = 92 then (match t with | [] => 1 | _ :: u => 2 + pc q u) else if c = 44 ∧ q = false then 0 else 1 + pc q t := by rw [pc.eq_def]
theorem pc_le : ∀ (l : List UInt8) (q : Bool), pc q l ≤ l.length
  | [], q => by simp [pc]
  | [c], q => by
    have : ∀ q, pc q ([] : List UInt8) = 0 := fun _ => rfl
    unfold pc
    (repeat' split) <;> simp_all [pc]
  | c :: d :: u, q => by
    have h1 := pc_le (d :: u) (!q)
    have h2 := pc_le (d :: u) q
    have h3 := pc_le u q
    unfold pc
    simp only [List.length_cons] at h1 h2 ⊢
    split
    · omega
    · split
      · omega
      · split <;> omega
def one (l : List UInt8) : List (List UInt8) := if tr l = [] then [] else [tr l]
/-- The pieces of one value: what has been gone through since the last cut, the state, the rest. -/
def rf : List UInt8 → Bool → List UInt8 → List (List UInt8)
  | cur, _, [] => one cur
  | cur, q, c :: t =>
    if c = 34 then rf (cur ++ [c]) (!q) t
    else if q = true ∧ c = 92 then (match t with | [] => one (cur ++ [c]) | d :: u => rf (cur ++ [c, d]) q u)
    else if c = 44 ∧ q = false then one cur ++ rf [] false t
    else rf (cur ++ [c]) q t
theorem rf_cons (cur : List UInt8) (q : Bool) (c : UInt8) (t : List UInt8) : rf cur q (c :: t) = if c = 34 then rf (cur ++ [c]) (!q) t else if q = true ∧ c = 92 then (match t with | [] => one (cur ++ [c]) | d :: u => rf (cur ++ [c, d]) q u) else if c = 44 ∧ q = false then one cur ++ rf [] false t else rf (cur ++ [c]) q t := by rw [rf.eq_def]
theorem rf_plain (cur : List UInt8) (q : Bool) (c : UInt8) (t : List UInt8) (h : ¬ (q = true ∧ c = 92)) : rf cur q (c :: t) = if c = 34 then rf (cur ++ [c]) (!q) t else if c = 44 ∧ q = false then one cur ++ rf [] false t else rf (cur ++ [c]) q t := by rw [rf_cons, if_neg h]
def pieces (l : List UInt8) : List (List UInt8) := rf [] false l
theorem rf_pc : ∀ (l cur : List UInt8) (q : Bool), rf cur q l = one (cur ++ l.take (pc q l)) ++ (if pc q l < l.length then pieces (l.drop (pc q l + 1)) else [])
  | [], cur, q => by simp [rf, pc]
  | [c], cur, q => by
    have h0 : ∀ q, pc q ([] : List UInt8) = 0 := fun _ => rfl
    have h1 : ∀ cur q, rf cur q [] = one cur := fun _ _ => rfl
    unfold rf pc
    by_cases e1 : c = 34
    · simp [e1, h0, h1]
    · by_cases e2 : q = true ∧ c = 92
      · simp [e1, e2]
      · by_cases e3 : c = 44 ∧ q = false
        · simp [e3, pieces, h1]
        · rw [if_neg e1, if_neg e2, if_neg e3, if_neg e1, if_neg e2, if_neg e3, h0, h1]
          simp
  | c :: d :: u, cur, q => by
    have i1 := rf_pc (d :: u) (cur ++ [c]) (!q)
    have i2 := rf_pc (d :: u) (cur ++ [c]) q
    have i3 := rf_pc u (cur ++ [c, d]) q
    rw [rf, pc]
    by_cases e1 : c = 34
    · rw [if_pos e1, if_pos e1, i1]
      rw [show (1 + pc (!q) (d :: u)) = pc (!q) (d :: u) + 1 from by omega, List.take_succ_cons, List.drop_succ_cons]
      simp only [List.length_cons, List.append_assoc, List.cons_append, List.nil_append]
      congr 1
      by_cases hlt : pc (!q) (d :: u) < u.length + 1
      · rw [if_pos hlt, if_pos (by omega)]; simp only [List.drop_succ_cons]
      · rw [if_neg hlt, if_neg (by omega)]
    · rw [if_neg e1, if_neg e1]
      by_cases e2 : q = true ∧ c = 92
      · rw [if_pos e2, if_pos e2]
        show rf (cur ++ [c, d]) q u = one (cur ++ (c :: d :: u).take (2 + pc q u)) ++ (if 2 + pc q u < (c :: d :: u).length then pieces ((c :: d :: u).drop (2 + pc q u + 1)) else [])
        rw [i3, show 2 + pc q u = pc q u + 1 + 1 from by omega, List.take_succ_cons, List.take_succ_cons, List.drop_succ_cons, List.drop_succ_cons]
        simp only [List.length_cons, List.append_assoc, List.cons_append, List.nil_append]
        congr 1
        by_cases hlt : pc q u < u.length
        · rw [if_pos hlt, if_pos (by omega)]
        · rw [if_neg hlt, if_neg (by omega)]
      · rw [if_neg e2, if_neg e2]
        by_cases e3 : c = 44 ∧ q = false
        · rw [if_pos e3, if_pos e3]
          simp [pieces]
        · rw [if_neg e3, if_neg e3, i2]
          rw [show (1 + pc q (d :: u)) = pc q (d :: u) + 1 from by omega, List.take_succ_cons, List.drop_succ_cons]
          simp only [List.length_cons, List.append_assoc, List.cons_append, List.nil_append]
          congr 1
          by_cases hlt : pc q (d :: u) < u.length + 1
          · rw [if_pos hlt, if_pos (by omega)]; simp only [List.drop_succ_cons]
          · rw [if_neg hlt, if_neg (by omega)]
theorem pieces_nil : pieces [] = [] := by simp [pieces, rf, one, tr_nil]
theorem pieces_pc (l : List UInt8) : pieces l = one (l.take (pc false l)) ++ (if pc false l < l.length then pieces (l.drop (pc false l + 1)) else []) := by
  have := rf_pc l [] false
  rw [List.nil_append] at this
  exact this
/-- The same where the rest is cut as the program cuts it. -/
theorem pieces_cut (l : List UInt8) : pieces l = one (l.take (pc false l)) ++ pieces (l.drop (min (pc false l + 1) l.length)) := by
  have h := pc_le l false
  rw [pieces_pc l]
  by_cases hlt : pc false l < l.length
  · rw [if_pos hlt, Nat.min_eq_left (by omega)]
  · rw [if_neg hlt, Nat.min_eq_right (by omega), List.drop_length, pieces_nil]
theorem one_len (l : List UInt8) : (one l).length ≤ 1 := by unfold one; split <;> simp
theorem pieces_len : ∀ (n : Nat) (l : List UInt8), l.length ≤ n → (pieces l).length ≤ l.length + 1
  | 0, l, h => by
    have : l = [] := by cases l <;> simp_all
    subst this; rw [pieces_nil]; simp
  | n + 1, l, h => by
    rw [pieces_pc l]
    have h1 := one_len (l.take (pc false l))
    by_cases hlt : pc false l < l.length
    · rw [if_pos hlt, List.length_append]
      have h2 := pieces_len n (l.drop (pc false l + 1)) (by rw [List.length_drop]; omega)
      rw [List.length_drop] at h2
      omega
    · rw [if_neg hlt, List.length_append]
      simp only [List.length_nil]; omega
/-- The pieces of several values. -/
def splits (v : List ByteArray) : List (List UInt8) := v.flatMap fun s => pieces (B s)
/-! texts joined -/
def joinS (c : UInt8) : List (List UInt8) → List UInt8
  | [] => []
  | [p] => p
  | p :: q :: r => p ++ c :: joinS c (q :: r)
theorem join_S (c : UInt8) : ∀ L : List (List UInt8), Lib.join L [c] = joinS c L
  | [] => rfl
  | [p] => by rw [Lib.join_one]; rfl
  | p :: q :: r => by
    have ih := join_S c (q :: r)
    rw [Lib.join_cons] at ih
    rw [Lib.join_cons, joinS, ← ih]
    show p ++ ((List.map ([c] ++ ·) (q :: r)).flatten) = _
    rw [List.map_cons, List.flatten_cons]; rfl
theorem joinS_snoc (c : UInt8) (p : List UInt8) : ∀ L : List (List UInt8), L ≠ [] → joinS c (L ++ [p]) = joinS c L ++ c :: p
  | [], h => absurd rfl h
  | [q], _ => rfl
  | q :: r :: t, _ => by
    have ih := joinS_snoc c p (r :: t) (by simp)
    rw [List.cons_append, List.cons_append, joinS, ← List.cons_append, ih, joinS, List.append_assoc]; rfl
theorem joinS_len (c : UInt8) (M : Nat) : ∀ L : List (List UInt8), (∀ p ∈ L, p.length ≤ M) → (joinS c L).length ≤ L.length * (M + 1)
  | [], _ => by simp [joinS]
  | [p], h => by
    have := h p (by simp)
    show p.length ≤ 1 * (M + 1)
    omega
  | p :: q :: r, h => by
    have h0 := h p (by simp)
    have ih := joinS_len c M (q :: r) (fun x hx => h x (List.mem_cons_of_mem _ hx))
    rw [joinS, List.length_append, List.length_cons, List.length_cons, Nat.succ_mul]
    omega
theorem sum_size : ∀ (l : List ByteArray), l.length ≤ (l.map fun y => (y.size + 1)).sum ∧ ∀ s ∈ l, s.size + 1 ≤ (l.map fun y => (y.size + 1)).sum
  | [] => by simp
  | x :: t => by
    obtain ⟨h1, h2⟩ := sum_size t
    simp only [List.map_cons, List.sum_cons, List.length_cons]
    refine ⟨by omega, fun s hs => ?_⟩
    rcases List.mem_cons.1 hs with rfl | hs
    · omega
    · have := h2 s hs; omega
theorem pieces_small : ∀ (n : Nat) (l : List UInt8), l.length ≤ n → ∀ x ∈ pieces l, x.length ≤ l.length
  | 0, l, h => by
    have : l = [] := by cases l <;> simp_all
    subst this; rw [pieces_nil]; simp
  | n + 1, l, h => by
    intro x hx
    rw [pieces_pc l] at hx
    rcases List.mem_append.1 hx with hx | hx
    · unfold one at hx
      split at hx
      · simp at hx
      · have e : x = tr (l.take (pc false l)) := by simpa using hx
        have h1 := tr_len (l.take (pc false l))
        have h2 := List.length_take_le (pc false l) l
        have h3 := pc_le l false
        rw [e]
        rw [List.length_take] at h1 h2
        omega
    · split at hx
      · have := pieces_small n (l.drop (pc false l + 1)) (by rw [List.length_drop]; omega) x hx
        rw [List.length_drop] at this; omega
      · simp at hx
theorem splits_small {N : Nat} (v : List ByteArray) (hb : ∀ s ∈ v, s.size ≤ N) : ∀ x ∈ splits v, x.length ≤ N := by
  intro x hx
  obtain ⟨s, hs, hx⟩ := List.mem_flatMap.1 hx
  have h1 := pieces_small _ (B s) (Nat.le_refl _) x hx
  have h2 := hb s hs
  rw [size_B] at h2; omega
theorem splits_few : ∀ (v : List ByteArray), (splits v).length ≤ (v.map fun y => (y.size + 1)).sum
  | [] => by simp [splits]
  | s :: t => by
    have h1 := splits_few t
    have h2 := pieces_len (B s).length (B s) (Nat.le_refl _)
    rw [← size_B] at h2
    simp only [splits, List.flatMap_cons, List.length_append, List.map_cons, List.sum_cons] at h1 ⊢
    omega
/-- A byte of a name. -/
def tch (c : UInt8) : Bool := (decide (97 ≤ c.toNat) && decide (c.toNat ≤ 122)) || (decide (65 ≤ c.toNat) && decide (c.toNat ≤ 90)) || (decide (48 ≤ c.toNat) && decide (c.toNat ≤ 57)) || ([33, 35, 36, 37, 38, 39, 42, 43, 45, 46, 94, 95, 96, 124, 126] : List UInt8).contains c
def nameOf (l : List UInt8) : Bool := l.all tch && decide (1 ≤ l.length) && decide (l.length ≤ 100)
theorem idx_contains (l : List UInt8) (c : UInt8) : l.contains c = decide (Lib.indexByte l c ≥ 0) := Lib.contains_iff_indexByte l c
theorem IB_ok (s : ByteArray) (c : UInt8) : strings_IndexByte.f s (c.toNat : Int) = some (Lib.indexByte (B s) c) := by
  unfold strings_IndexByte.f
  congr 2
  show ((c.toNat : Int).toNat).toUInt8 = c
  rw [Int.toNat_natCast]
  simp
theorem Ev.range {α : Type} {lo hi c : Int} {X Y : Nat → Option α} {r : α} (h1 : lo ≤ c ∧ c ≤ hi → Ev X r) (h2 : ¬ (lo ≤ c ∧ c ≤ hi) → Ev Y r) : Ev (fun k => if c ≥ lo then (if c ≤ hi then X k else Y k) else Y k) r := by
  by_cases a : c ≥ lo
  · by_cases b : c ≤ hi
    · exact Ev.pos a (Ev.pos b (h1 ⟨a, b⟩))
    · exact Ev.pos a (Ev.neg b (h2 fun z => b z.2))
  · exact Ev.neg a (h2 fun z => a z.1)
def others : ByteArray := ⟨#[33, 35, 36, 37, 38, 39, 42, 43, 45, 46, 94, 95, 96, 124, 126]⟩
theorem tch_of {c : UInt8} : tch c = ((decide (97 ≤ (c.toNat : Int) ∧ (c.toNat : Int) ≤ 122)) || (decide (65 ≤ (c.toNat : Int) ∧ (c.toNat : Int) ≤ 90)) || (decide (48 ≤ (c.toNat : Int) ∧ (c.toNat : Int) ≤ 57)) || (B others).contains c) := by
  have e : ∀ a b : Nat, (decide (a ≤ c.toNat) && decide (c.toNat ≤ b)) = decide ((a : Int) ≤ (c.toNat : Int) ∧ (c.toNat : Int) ≤ (b : Int)) := by
    intro a b; rw [Bool.eq_iff_iff]; simp
  unfold tch
  rw [e, e, e]; rfl
/-- Where a text goes: behind the last one that is less. -/
def uBack (out : List ByteArray) (x : ByteArray) : Nat → Nat
  | 0 => 0
  | k + 1 => if Op.bytesLess (rdOf ByteArray.empty out (k : Int)).toList x.toList = true then k + 1 else uBack out x k
theorem uBack_le (out : List ByteArray) (x : ByteArray) : ∀ k, uBack out x k ≤ k
  | 0 => Nat.le_refl _
  | k + 1 => by
    unfold uBack
    split
    · exact Nat.le_refl _
    · exact Nat.le_succ_of_le (uBack_le out x k)
def uIns (out : List ByteArray) (x : ByteArray) (k : Nat) : List ByteArray :=
  if k < out.length ∧ (rdOf ByteArray.empty out (k : Int)).toList = x.toList then out else out.take k ++ ([x] ++ out.drop k)
def uStep (out : List ByteArray) (x : ByteArray) : List ByteArray := uIns out x (uBack out x out.length)
def uniqL (l : List ByteArray) : List ByteArray := l.foldl uStep []
theorem uIns_len (out : List ByteArray) (x : ByteArray) (k : Nat) : (uIns out x k).length ≤ out.length + 1 := by
  unfold uIns
  split
  · omega
  · simp only [List.length_append, List.length_take, List.length_drop, List.length_cons, List.length_nil]; omega
/-! texts in rising order, each once -/
def ltB (a b : ByteArray) : Prop := B a < B b
theorem lt_irr (a : List UInt8) : ¬ a < a := List.lt_irrefl a
theorem lt_tr {a b c : List UInt8} (h : a < b) (k : b < c) : a < c := List.lt_trans h k
theorem lt_of_not {a b : List UInt8} (h : ¬ a < b) (k : a ≠ b) : b < a := by
  have h1 : b ≤ a := List.not_lt.1 h
  rcases List.le_iff_lt_or_eq.1 h1 with q | q
  · exact q
  · exact absurd q.symm k
theorem less_B (x y : ByteArray) : Op.bytesLess x.toList y.toList = decide (B x < B y) := by rw [toList_B, toList_B]; exact Go.Proofs.bytesLess_eq _ _
theorem strict_ext : ∀ (a b : List ByteArray), a.Pairwise ltB → b.Pairwise ltB → (∀ x, x ∈ a ↔ x ∈ b) → a = b
  | [], [], _, _, _ => rfl
  | [], y :: b, _, _, h => absurd ((h y).2 List.mem_cons_self) (by simp)
  | x :: a, [], _, _, h => absurd ((h x).1 List.mem_cons_self) (by simp)
  | x :: a, y :: b, ha, hb, h => by
    obtain ⟨a1, a2⟩ := List.pairwise_cons.1 ha
    obtain ⟨b1, b2⟩ := List.pairwise_cons.1 hb
    have e : x = y := by
      rcases List.mem_cons.1 ((h x).1 List.mem_cons_self) with q | q
      · exact q
      · rcases List.mem_cons.1 ((h y).2 List.mem_cons_self) with r | r
        · exact r.symm
        · exact absurd (lt_tr (b1 x q) (a1 y r)) (lt_irr _)
    subst e
    rw [strict_ext a b a2 b2 (fun z => ⟨fun hz => ?_, fun hz => ?_⟩)]
    · rcases List.mem_cons.1 ((h z).1 (List.mem_cons_of_mem _ hz)) with q | q
      · subst q; exact absurd (a1 z hz) (lt_irr _)
      · exact q
    · rcases List.mem_cons.1 ((h z).2 (List.mem_cons_of_mem _ hz)) with q | q
      · subst q; exact absurd (b1 z hz) (lt_irr _)
      · exact q
theorem rdOf_get {l : List ByteArray} {j : Nat} (h : j < l.length) : rdOf ByteArray.empty l (j : Int) = l[j] := by
  unfold rdOf
  rw [Int.toNat_natCast, List.getD_eq_getElem?_getD, List.getElem?_eq_getElem h]; rfl
theorem uBack_spec (out : List ByteArray) (x : ByteArray) : ∀ k, k ≤ out.length → (∀ j (h : j < out.length), uBack out x k ≤ j → j < k → ¬ B out[j] < B x) ∧ (∀ (h : 0 < uBack out x k) (h2 : uBack out x k - 1 < out.length), B out[uBack out x k - 1] < B x)
  | 0, _ => ⟨fun j _ _ h => by omega, fun h => by simp [uBack] at h⟩
  | k + 1, hk => by
    have ih := uBack_spec out x k (by omega)
    have hr := rdOf_get (l := out) (j := k) (by omega)
    have hl := less_B (rdOf ByteArray.empty out (k : Int)) x
    rw [hr] at hl
    by_cases h : B out[k] < B x
    · have e : uBack out x (k + 1) = k + 1 := by
        unfold uBack
        rw [if_pos (by rw [hr, hl]; exact decide_eq_true h)]
      rw [e]
      exact ⟨fun j _ h1 h2 => by omega, fun _ _ => h⟩
    · have e : uBack out x (k + 1) = uBack out x k := by
        rw [uBack, if_neg (by rw [hr, hl]; simpa using h)]
      rw [e]
      refine ⟨fun j hj h1 h2 => ?_, ih.2⟩
      by_cases q : j = k
      · subst q; exact h
      · exact ih.1 j hj h1 (by omega)
theorem uStep_spec (out : List ByteArray) (x : ByteArray) (h : out.Pairwise ltB) : (uStep out x).Pairwise ltB ∧ ∀ y, y ∈ uStep out x ↔ y ∈ out ∨ y = x := by
  obtain ⟨s1, s2⟩ := uBack_spec out x out.length (Nat.le_refl _)
  have s0 := uBack_le out x out.length
  unfold uStep
  generalize uBack out x out.length = k at *
  unfold uIns
  by_cases c : k < out.length ∧ (rdOf ByteArray.empty out (k : Int)).toList = x.toList
  · rw [if_pos c]
    refine ⟨h, fun y => ⟨Or.inl, fun q => ?_⟩⟩
    rcases q with q | q
    · exact q
    · obtain ⟨k1, e⟩ := c
      rw [rdOf_get k1, toList_B, toList_B] at e
      rw [q, ← B_inj e]
      exact List.getElem_mem k1
  · rw [if_neg c]
    have lo : ∀ y ∈ out.take k, B y < B x := by
      intro y hy
      obtain ⟨j, hj, rfl⟩ := List.getElem_of_mem hy
      rw [List.length_take] at hj
      rw [List.getElem_take]
      have hx := s2 (by omega) (by omega)
      by_cases e : j = k - 1
      · subst e; exact hx
      · exact lt_tr (List.pairwise_iff_getElem.1 h j (k - 1) (by omega) (by omega) (by omega)) hx
    have hi : ∀ y ∈ out.drop k, B x < B y := by
      intro y hy
      obtain ⟨j, hj, rfl⟩ := List.getElem_of_mem hy
      rw [List.length_drop] at hj
      rw [List.getElem_drop]
      have hx : B x < B out[k] := lt_of_not (s1 k (by omega) (Nat.le_refl _) (by omega)) (fun e => c ⟨by omega, by rw [rdOf_get (by omega), toList_B, toList_B]; exact e⟩)
      by_cases e : j = 0
      · subst e; exact hx
      · exact lt_tr hx (List.pairwise_iff_getElem.1 h k (k + j) (by omega) (by omega) (by omega))
    have hsplit : out.Pairwise ltB := h
    rw [← List.take_append_drop k out] at hsplit
    obtain ⟨p1, p2, p3⟩ := List.pairwise_append.1 hsplit
    refine ⟨List.pairwise_append.2 ⟨p1, List.pairwise_append.2 ⟨List.pairwise_singleton _ _, p2, fun a ha b hb => ?_⟩, fun a ha b hb => ?_⟩, fun y => ?_⟩
    · rw [List.mem_singleton.1 ha]; exact hi b hb
    · rcases List.mem_append.1 hb with q | q
      · rw [List.mem_singleton.1 q]; exact lo a ha
      · exact p3 a ha b q
    · have e : y ∈ out ↔ y ∈ out.take k ∨ y ∈ out.drop k := by rw [← List.mem_append, List.take_append_drop]
      rw [e, List.mem_append, List.mem_append, List.mem_singleton]
      constructor
      · rintro (q | q | q)
        · exact .inl (.inl q)
        · exact .inr q
        · exact .inl (.inr q)
      · rintro ((q | q) | q)
        · exact .inl q
        · exact .inr (.inr q)
        · exact .inr (.inl q)
theorem uniq_from : ∀ (l out : List ByteArray), out.Pairwise ltB → (l.foldl uStep out).Pairwise ltB ∧ ∀ y, y ∈ l.foldl uStep out ↔ y ∈ out ∨ y ∈ l
  | [], out, h => ⟨h, fun y => by simp⟩
  | x :: l, out, h => by
    obtain ⟨s1, s2⟩ := uStep_spec out x h
    obtain ⟨h1, h2⟩ := uniq_from l (uStep out x) s1
    refine ⟨h1, fun y => ?_⟩
    rw [List.foldl_cons, h2 y, s2 y, List.mem_cons, or_assoc]
theorem comp_spec (d : Array (List UInt8)) (hs : ∀ i j, i ≤ j → j < d.size → d[i]! ≤ d[j]!) : ∀ m, m ≤ d.size → (Lib.compactUpTo d m).Pairwise (· < ·) ∧ (∀ x, x ∈ Lib.compactUpTo d m ↔ ∃ j, j < m ∧ d[j]! = x)
  | 0, _ => by simp [Lib.compactUpTo]
  | m + 1, hm => by
    obtain ⟨h1, h2⟩ := comp_spec d hs m (by omega)
    rw [Lib.compactUpTo_succ]
    by_cases hk : Lib.keeps d m = true
    · rw [if_pos hk]
      have hk' : m = 0 ∨ d[m]! ≠ d[m - 1]! := of_decide_eq_true hk
      refine ⟨List.pairwise_append.2 ⟨h1, List.pairwise_singleton _ _, fun a ha b hb => ?_⟩, fun x => ?_⟩
      · rw [List.mem_singleton.1 hb]
        obtain ⟨j, hj, rfl⟩ := (h2 a).1 ha
        have q : d[m]! ≠ d[m - 1]! := by
          rcases hk' with e | e
          · omega
          · exact e
        have le1 := hs j (m - 1) (by omega) (by omega)
        have le2 := hs (m - 1) m (by omega) (by omega)
        have lt2 : d[m - 1]! < d[m]! := by
          rcases List.le_iff_lt_or_eq.1 le2 with e | e
          · exact e
          · exact absurd e.symm q
        rcases List.le_iff_lt_or_eq.1 le1 with e | e
        · exact lt_tr e lt2
        · rw [e]; exact lt2
      · rw [List.mem_append, List.mem_singleton, h2 x]
        constructor
        · rintro (⟨j, hj, e⟩ | e)
          · exact ⟨j, by omega, e⟩
          · exact ⟨m, by omega, e.symm⟩
        · rintro ⟨j, hj, e⟩
          by_cases q : j = m
          · subst q; exact .inr e.symm
          · exact .inl ⟨j, by omega, e⟩
    · rw [if_neg hk, List.append_nil]
      have hk' : ¬ (m = 0 ∨ d[m]! ≠ d[m - 1]!) := fun q => hk (decide_eq_true q)
      refine ⟨h1, fun x => ?_⟩
      rw [h2 x]
      constructor
      · rintro ⟨j, hj, e⟩
        exact ⟨j, by omega, e⟩
      · rintro ⟨j, hj, e⟩
        by_cases q : j = m
        · subst q
          exact ⟨j - 1, by omega, by rw [← e]; exact (Decidable.not_not.1 (fun z => hk' (.inr z))).symm⟩
        · exact ⟨j, by omega, e⟩
theorem comp_sort (l : List ByteArray) : (compB (sortB l)).Pairwise ltB ∧ ∀ y, y ∈ compB (sortB l) ↔ y ∈ l := by
  have hsm : (sortB l).map (fun s => s.data.toList) = (l.map B).mergeSort (fun x y => decide (x ≤ y)) := by
    unfold sortB
    rw [List.map_map]
    conv => rhs; rw [← List.map_id ((l.map B).mergeSort (fun x y => decide (x ≤ y)))]
    rfl
  have hp := List.pairwise_mergeSort (le := fun (x y : List UInt8) => decide (x ≤ y)) (fun a b c h k => decide_eq_true (List.le_trans (of_decide_eq_true h) (of_decide_eq_true k))) (fun a b => by
    rcases List.le_total a b with h | h
    · simp [h]
    · simp [h]) (l.map B)
  have hmem : ∀ x, x ∈ (l.map B).mergeSort (fun x y => decide (x ≤ y)) ↔ x ∈ l.map B := fun x => List.mem_mergeSort
  unfold compB
  rw [hsm]
  generalize (l.map B).mergeSort (fun x y => decide (x ≤ y)) = z at *
  have hs : ∀ i j, i ≤ j → j < z.toArray.size → z.toArray[i]! ≤ z.toArray[j]! := by
    intro i j hij hj
    have hj' : j < z.length := by simpa using hj
    rw [getElem!_pos z.toArray i (by simp; omega), getElem!_pos z.toArray j (by simp; omega)]
    by_cases e : i = j
    · subst e; exact List.le_refl _
    · have := List.pairwise_iff_getElem.1 hp i j (by omega) hj' (by omega)
      simpa using of_decide_eq_true this
  obtain ⟨c1, c2⟩ := comp_spec z.toArray hs z.length (by simp)
  have hc : Lib.compact z = Lib.compactUpTo z.toArray z.length := rfl
  rw [hc]
  refine ⟨List.pairwise_map.2 c1, fun y => ?_⟩
  rw [List.mem_map]
  constructor
  · rintro ⟨b, hb, rfl⟩
    obtain ⟨j, hj, e⟩ := (c2 b).1 hb
    rw [getElem!_pos z.toArray j (by simpa using hj)] at e
    have : b ∈ z := by rw [← e]; simp
    obtain ⟨s, hs, es⟩ := List.mem_map.1 ((hmem b).1 this)
    rw [← es]; exact hs
  · intro hy
    have : B y ∈ z := (hmem _).2 (List.mem_map_of_mem hy)
    obtain ⟨j, hj, e⟩ := List.getElem_of_mem this
    exact ⟨B y, (c2 _).2 ⟨j, hj, by rw [getElem!_pos z.toArray j (by simpa using hj)]; simpa using e⟩, rfl⟩
theorem uniq_eq (l : List ByteArray) : compB (sortB l) = uniqL l := by
  obtain ⟨a1, a2⟩ := comp_sort l
  obtain ⟨b1, b2⟩ := uniq_from l [] List.Pairwise.nil
  refine strict_ext _ _ a1 b1 (fun x => ?_)
  rw [a2 x]
  unfold uniqL
  rw [b2 x]; simp
/-! what an answer hung on -/
def badP (p : List UInt8) : Bool := decide (p = [42]) || !nmL p
  where nmL (p : List UInt8) : Bool := p.all tch && (decide (1 ≤ p.length) && decide (p.length ≤ 100))
def lowP (p : List UInt8) : ByteArray := Own.low (mk p)
def ruleOf (v : List ByteArray) : Bool × List ByteArray := if (splits v).any badP = true ∨ 64 < (splits v).length then (true, []) else (false, uniqL ((splits v).map lowP))
theorem mem_uniq (l : List ByteArray) (x : ByteArray) : x ∈ uniqL l ↔ x ∈ l := by
  have h := (uniq_from l [] List.Pairwise.nil).2 x
  unfold uniqL
  rw [h]; simp
theorem uniqL_len (l : List ByteArray) : (uniqL l).length ≤ l.length := by
  have h : ∀ (l out : List ByteArray), (l.foldl uStep out).length ≤ out.length + l.length := by
    intro l
    induction l with
    | nil => intro out; simp
    | cons x l ih =>
      intro out
      have h1 := ih (uStep out x)
      have h2 : (uStep out x).length ≤ out.length + 1 := uIns_len out x _
      rw [List.foldl_cons, List.length_cons]
      omega
  have := h l []
  simp only [List.length_nil, Nat.zero_add] at this
  exact this
theorem nm_of {p : List UInt8} (h : badP p = false) : 1 ≤ p.length ∧ p.length ≤ 100 := by
  unfold badP badP.nmL at h
  simp only [Bool.or_eq_false_iff, Bool.not_eq_false', Bool.and_eq_true, decide_eq_true_iff] at h
  exact h.2.2
/-- The names of a rule that is read: short, few. -/
theorem rule_facts (v : List ByteArray) : (ruleOf v).2.length ≤ 64 ∧ (∀ n ∈ (ruleOf v).2, 1 ≤ n.size ∧ n.size ≤ 100 ∧ Own.low n = n) ∧ (ruleOf v).2.Pairwise ltB ∧ ((ruleOf v).1 = true → (ruleOf v).2 = []) := by
  unfold ruleOf
  by_cases h : (splits v).any badP = true ∨ 64 < (splits v).length
  · rw [if_pos h]; exact ⟨by simp, by simp, List.Pairwise.nil, fun _ => rfl⟩
  · rw [if_neg h]
    obtain ⟨h1, h2⟩ := not_or.1 h
    have hl := uniqL_len ((splits v).map lowP)
    rw [List.length_map] at hl
    refine ⟨by show (uniqL _).length ≤ 64; omega, fun n hn => ?_, (uniq_from _ [] List.Pairwise.nil).1, fun h => by cases h⟩
    obtain ⟨p, hp, rfl⟩ := List.mem_map.1 ((mem_uniq _ _).1 hn)
    have hb : badP p = false := by
      cases e : badP p with
      | false => rfl
      | true => exact absurd (List.any_eq_true.2 ⟨p, hp, e⟩) h1
    have := nm_of hb
    have hs : (lowP p).size = p.length := by unfold lowP; rw [low_size, size_B, B_mk]
    exact ⟨by omega, by omega, low_low _⟩
def valOf (v : List ByteArray) : ByteArray := if v = [] then mk [45] else mk (61 :: joinS 44 (splits v))
def keyOf (names : List ByteArray) (l : List S36) : List ByteArray := names.map fun n => valOf (allOf l n)
def matchOf (r : Bool × List ByteArray) (a b : List S36) : Bool := !r.1 && decide (keyOf r.2 a = keyOf r.2 b)
theorem Trim_ok (s : ByteArray) (h : s.size ≤ 9223372036854775807) : head_Trim.f s = some (mk (tr (B s))) := by
  unfold head_Trim.f strings_Trim.f
  rw [if_pos h, if_pos rfl]
  rfl
theorem piece_loop (s : ByteArray) (hs : s.size ≤ 1000000000) : ∀ (n : Nat) (l : List UInt8) (i : Nat) (q : Bool), l.length ≤ n → (B s).drop i = l → i ≤ s.size →
    Ev (fun k => head_piece.l0 k s q (i : Int)) ((i + pc q l : Nat) : Int)
  | n, [], i, q, hn, hl, hi => by
    have h1 := end_drop hl
    have e : i = s.size := by omega
    refine Ev.step (fun _ => head_piece.l0.eq_2 ..) (Ev.neg (by omega) (Ev.konst ?_))
    simp [pc, e]
  | 0, c :: t, i, q, hn, hl, hi => by simp at hn
  | n + 1, c :: t, i, q, hn, hl, hi => by
    obtain ⟨h1, h2, h3⟩ := bt_drop hl
    simp only [List.length_cons] at hn
    have w1 : wrap64 ((i : Int) + 1) = ((i + 1 : Nat) : Int) := by rw [wrap_id (by omega) (by omega)]; omega
    have w2 : wrap64 (((i + 1 : Nat) : Int) + 1) = ((i + 2 : Nat) : Int) := by rw [wrap_id (by omega) (by omega)]; omega
    refine Ev.step (fun _ => head_piece.l0.eq_2 ..) (Ev.pos (by omega) (Ev.pos (by omega) ?_))
    rw [h1, w1, pc_cons]
    by_cases e1 : c = 34
    · rw [if_pos e1]
      refine Ev.pos ((u8_eq c 34 (by omega)).2 e1) ?_
      have := piece_loop s hs n t (i + 1) (!q) (by omega) h3 (by omega)
      rw [show i + (1 + pc (!q) t) = i + 1 + pc (!q) t from by omega]
      exact this
    · rw [if_neg e1]
      refine Ev.neg (fun h => e1 ((u8_eq c 34 (by omega)).1 h)) ?_
      have tail : ∀ b, ¬ b = true → (¬ (q = true ∧ c = 92)) → Ev (fun k => head_piece.j1 k s q (i : Int) b) ((i + (if c = 44 ∧ q = false then 0 else 1 + pc q t) : Nat) : Int) := by
        intro b hb hq
        refine Ev.step (fun _ => head_piece.j1.eq_2 ..) (Ev.neg hb (Ev.pos (by omega) (Ev.pos (by omega) ?_)))
        rw [h1, w1]
        by_cases e3 : c = 44
        · refine Ev.pos ((u8_eq c 44 (by omega)).2 e3) ?_
          cases q with
          | true =>
            rw [if_neg (by simp)]
            refine Ev.pos rfl ?_
            have := piece_loop s hs n t (i + 1) true (by omega) h3 (by omega)
            rw [show i + (1 + pc true t) = i + 1 + pc true t from by omega]
            exact this
          | false =>
            rw [if_pos ⟨e3, rfl⟩]
            exact Ev.neg (by simp) (Ev.now _)
        · rw [if_neg (fun h => e3 h.1)]
          refine Ev.neg (fun h => e3 ((u8_eq c 44 (by omega)).1 h)) ?_
          have := piece_loop s hs n t (i + 1) q (by omega) h3 (by omega)
          rw [show i + (1 + pc q t) = i + 1 + pc q t from by omega]
          exact this
      cases q with
      | false =>
        rw [if_neg (by simp)]
        exact Ev.neg (by simp) (tail false (by simp) (by simp))
      | true =>
        refine Ev.pos rfl ?_
        by_cases e2 : c = 92
        · rw [if_pos ⟨rfl, e2⟩, show ((c.toNat : Int) == 92) = true from by simpa using (u8_eq c 92 (by omega)).2 e2]
          refine Ev.step (fun _ => head_piece.j1.eq_2 ..) (Ev.pos rfl ?_)
          rw [w1, w2]
          cases t with
          | nil =>
            have h4 := end_drop h3
            refine Ev.step (fun _ => head_piece.l0.eq_2 ..) (Ev.neg (by omega) (Ev.konst ?_))
            simp; omega
          | cons d u =>
            obtain ⟨_, h5, h6⟩ := bt_drop h3
            simp only [List.length_cons] at hn
            have := piece_loop s hs n u (i + 2) true (by omega) h6 (by omega)
            show Ev _ ((i + (2 + pc true u) : Nat) : Int)
            rw [show i + (2 + pc true u) = i + 2 + pc true u from by omega]
            exact this
        · rw [if_neg (fun h => e2 h.2), show ((c.toNat : Int) == 92) = false from by simpa using fun h => e2 ((u8_eq c 92 (by omega)).1 h)]
          exact tail false (by simp) (fun h => e2 h.2)
theorem piece_ok (s : ByteArray) (hs : s.size ≤ 1000000000) : Ev (fun k => head_piece.f k s) ((pc false (B s) : Nat) : Int) := by
  unfold head_piece.f
  have := piece_loop s hs (B s).length (B s) 0 false (Nat.le_refl _) rfl (by omega)
  rw [Nat.zero_add] at this
  exact this
theorem mn_nat (a b : Nat) : mn (a : Int) (b : Int) = ((min a b : Nat) : Int) := by
  unfold mn; split <;> omega
/-- One value is gone through; what follows is told. -/
theorem split_one (v : List ByteArray) (m : Int) (j : Int) {r : List ByteArray} (bd : Nat) (hbd : bd ≤ 1000000000) : ∀ (n : Nat) (s : ByteArray) (acc : List ByteArray), s.size ≤ n → s.size ≤ 1000000000 → acc.length + s.size + 1 ≤ bd →
    Ev (fun k => head_Split.l0 k (acc ++ (pieces (B s)).map mk) v m (wrap64 (j + 1))) r → Ev (fun k => head_Split.l1 k acc s v m j) r
  | n, s, acc, hn, hs, ha, hr => by
    refine Ev.step (fun _ => head_Split.l1.eq_2 ..) ?_
    by_cases he : B s = []
    · rw [he, pieces_nil] at hr
      simp only [List.map_nil, List.append_nil] at hr
      exact Ev.pos (by rw [toList_B, he]) hr
    · have hne : ¬ s.toList = [] := by rw [toList_B]; exact he
      have hp := pc_le (B s) false
      rw [← size_B] at hp
      have hpos : 0 < s.size := by
        rw [size_B]
        cases h : B s with
        | nil => exact absurd h he
        | cons _ _ => simp
      have w1 : wrap64 (((pc false (B s) : Nat) : Int) + 1) = ((pc false (B s) + 1 : Nat) : Int) := by rw [wrap_id (by omega) (by omega)]; omega
      have e1 : ((mn ((pc false (B s) + 1 : Nat) : Int) (s.size : Int)) : Int).toNat = min (pc false (B s) + 1) s.size := by rw [mn_nat]; exact Int.toNat_natCast _
      have h0 : 0 ≤ mn ((pc false (B s) + 1 : Nat) : Int) (s.size : Int) := by rw [mn_nat]; omega
      have h1 : mn ((pc false (B s) + 1 : Nat) : Int) (s.size : Int) ≤ (s.size : Int) := by rw [mn_nat]; omega
      have cut := pieces_cut (B s)
      have eT : head_Trim.f (s.extract 0 ((pc false (B s) : Nat) : Int).toNat) = some (mk (tr ((B s).take (pc false (B s))))) := by
        rw [Trim_ok _ (by rw [size_B, B_to]; have := List.length_take_le (pc false (B s)) (B s); simp only [Int.toNat_natCast] at *; rw [← size_B] at *; omega), B_to, Int.toNat_natCast]
      have hrest : B (s.extract (min (pc false (B s) + 1) s.size) s.size) = (B s).drop (min (pc false (B s) + 1) (B s).length) := by rw [B_from, ← size_B]
      have hsz : (s.extract (min (pc false (B s) + 1) s.size) s.size).size = s.size - min (pc false (B s) + 1) s.size := by rw [size_B, B_from, List.length_drop, ← size_B]
      refine Ev.neg hne (Ev.bind (piece_ok s hs) (Ev.pos (by omega) (Ev.pos (by omega) (Ev.bnd eT ?_))))
      rw [w1, e1]
      obtain ⟨n, rfl⟩ : ∃ m, n = m + 1 := ⟨n - 1, by omega⟩
      by_cases hz : tr ((B s).take (pc false (B s))) = []
      · refine Ev.pos (by rw [toList_B, B_mk, hz]) (Ev.pos h0 (Ev.pos h1 ?_))
        refine split_one v m j bd hbd n _ acc (by rw [hsz]; omega) (by rw [hsz]; omega) (by rw [hsz]; omega) ?_
        rw [hrest]
        rw [cut, one, if_pos hz, List.nil_append] at hr
        exact hr
      · refine Ev.neg (by rw [toList_B, B_mk]; exact hz) (Ev.pos (by omega) (Ev.pos h0 (Ev.pos h1 ?_)))
        refine split_one v m j bd hbd n _ _ (by rw [hsz]; omega) (by rw [hsz]; omega) (by rw [hsz]; simp only [List.length_append, List.length_cons, List.length_nil]; omega) ?_
        rw [hrest]
        rw [cut, one, if_neg hz] at hr
        simpa using hr
theorem split_loop (v : List ByteArray) (hv : v.length ≤ 1000000) (hb : ∀ s ∈ v, s.size ≤ 1100000) : ∀ (l : List ByteArray) (i : Nat) (acc : List ByteArray), v.drop i = l → acc.length ≤ 1100001 * i → i + l.length ≤ 400 →
    Ev (fun k => head_Split.l0 k acc v (v.length : Int) (i : Int)) (acc ++ (splits l).map mk)
  | [], i, acc, hl, ha, hi => by
    have := drop_nil hl
    refine Ev.step (fun _ => head_Split.l0.eq_2 ..) (Ev.neg (by omega) (Ev.konst ?_))
    simp [splits]
  | s :: t, i, acc, hl, ha, hi => by
    obtain ⟨h1, h2, h3⟩ := drop_cons hl
    have hs := hb s (List.mem_of_getElem? h2)
    have hp := pieces_len (B s).length (B s) (Nat.le_refl _)
    rw [← size_B] at hp
    simp only [List.length_cons] at hi
    refine Ev.step (fun _ => head_Split.l0.eq_2 ..) (Ev.pos (by omega) (Ev.pos (by omega) (Ev.pos (by omega) ?_)))
    rw [rdOf_of h2]
    refine split_one v _ _ 1000000000 (Nat.le_refl _) s.size s acc (Nat.le_refl _) (by omega) (by omega) ?_
    rw [wrap_id (by omega) (by omega), cast_succ]
    have hl' : (acc ++ (pieces (B s)).map mk).length ≤ 1100001 * (i + 1) := by rw [List.length_append, List.length_map]; omega
    have := split_loop v hv hb t (i + 1) _ h3 hl' (by omega)
    simpa [splits] using this
theorem Name_loop (s : ByteArray) (hs : s.size ≤ 9223372036854775807) : ∀ (t : List UInt8) (i : Nat), (B s).drop i = t → Ev (fun k => head_Name.l0 k s (s.size : Int) (i : Int)) (t.all tch && (decide (1 ≤ s.size) && decide (s.size ≤ 100)))
  | [], i, ht => by
    have := end_drop ht
    refine Ev.step (fun _ => head_Name.l0.eq_2 ..) (Ev.neg (by omega) ?_)
    rw [toList_B, List.all_nil, Bool.true_and]
    by_cases h : B s = []
    · have h0 : s.size = 0 := by rw [size_B, h]; rfl
      refine Ev.pos h ?_
      rw [h0]; exact Ev.now _
    · have h0 : 1 ≤ s.size := by rw [size_B]; exact List.length_pos_iff.2 h
      refine Ev.neg h ?_
      rw [decide_eq_true h0, Bool.true_and]
      refine Ev.konst ?_
      congr 1
      rw [Bool.eq_iff_iff]; simp; omega
  | c :: t, i, ht => by
    obtain ⟨a1, a2, a3⟩ := bt_drop ht
    have ih := Name_loop s hs t (i + 1) a3
    refine Ev.step (fun _ => head_Name.l0.eq_2 ..) (Ev.pos (by omega) (Ev.pos (by omega) (Ev.pos (by omega) ?_)))
    rw [a1, wrap_id (by omega) (by omega), cast_succ]
    have yes : tch c = true → Ev (fun k => head_Name.l0 k s (s.size : Int) ((i + 1 : Nat) : Int)) ((c :: t).all tch && (decide (1 ≤ s.size) && decide (s.size ≤ 100))) := fun h => by
      rw [List.all_cons, h, Bool.true_and]; exact ih
    have T := @tch_of c
    refine Ev.range (fun h => yes (by rw [T, decide_eq_true h]; simp)) (fun n1 => Ev.range (fun h => yes (by rw [T, decide_eq_true h]; simp)) (fun n2 => Ev.range (fun h => yes (by rw [T, decide_eq_true h]; simp)) (fun n3 => Ev.bnd (IB_ok others c) ?_)))
    have T2 : tch c = decide (Lib.indexByte (B others) c ≥ 0) := by
      rw [T, decide_eq_false n1, decide_eq_false n2, decide_eq_false n3, idx_contains]; simp
    by_cases hx : Lib.indexByte (B others) c ≥ 0
    · exact Ev.pos hx (yes (by rw [T2, decide_eq_true hx]))
    · refine Ev.neg hx ?_
      rw [List.all_cons, T2, decide_eq_false hx]; exact Ev.now _
def nm (s : ByteArray) : Bool := (B s).all tch && (decide (1 ≤ s.size) && decide (s.size ≤ 100))
theorem Name_ok (s : ByteArray) (hs : s.size ≤ 9223372036854775807) : Ev (fun k => head_Name.f k s) (nm s) := Name_loop s hs (B s) 0 rfl
theorem Lower_ok {s : ByteArray} (h : s.size ≤ 9223372036854775807) : head_Lower.f s = some (Own.low s) := by
  unfold head_Lower.f; rw [if_pos h]
theorem Split17 (v : List ByteArray) (hv : v.length ≤ 400) (hb : ∀ s ∈ v, s.size ≤ 1100000) : Ev (fun k => head_Split.f k v) ((splits v).map mk) := by
  have := split_loop v (by omega) (fun s hs => by have := hb s hs; omega) v 0 [] rfl (by simp) (by omega)
  rw [List.nil_append] at this
  exact this
theorem splits_count (v : List ByteArray) (hv : v.length ≤ 400) (hb : ∀ s ∈ v, s.size ≤ 1100000) : (splits v).length ≤ 500000000 := by
  have h1 := splits_few v
  have h2 : ∀ l : List ByteArray, (∀ s ∈ l, s.size ≤ 1100000) → (l.map fun y => (y.size + 1)).sum ≤ l.length * 1100001 := by
    intro l
    induction l with
    | nil => intro _; simp
    | cons x l ih =>
      intro h
      have := ih (fun s hs => h s (List.mem_cons_of_mem _ hs))
      have := h x (by simp)
      simp only [List.map_cons, List.sum_cons, List.length_cons, Nat.succ_mul]
      omega
  have h3 := h2 v hb
  omega
theorem VParse_loop (L : List (List UInt8)) (hL : L.length ≤ 500000000) (hb : ∀ p ∈ L, p.length ≤ 1100000) : ∀ (t : List (List UInt8)) (i : Nat) (acc : List ByteArray), L.drop i = t → acc.length ≤ i → i ≤ L.length → Ev (fun k => vary_Parse.l0 k (L.map mk) (L.map mk) ((L.map mk).length : Int) (i : Int) false acc) (if t.any badP = true ∨ 64 < L.length then (true, []) else (false, uniqL (acc ++ t.map lowP)))
  | [], i, acc, h, ha, hi => by
    have := drop_nil h
    refine Ev.step (fun _ => vary_Parse.l0.eq_2 ..) (Ev.neg (by rw [List.length_map]; omega) ?_)
    by_cases h64 : 64 < L.length
    · rw [if_pos (Or.inr h64)]
      exact Ev.pos (by rw [List.length_map]; omega) (Ev.now _)
    · rw [if_neg (show ¬ (([] : List (List UInt8)).any badP = true ∨ 64 < L.length) by simpa using h64)]
      refine Ev.neg (by rw [List.length_map]; omega) (Ev.bnd (a := ()) (by unfold slices_SortS.f; rw [if_pos (by omega)]) (Ev.bnd (a := uniqL acc) (by unfold slices_CompactS.f; rw [uniq_eq]) (Ev.tell ?_)))
      rw [List.map_nil, List.append_nil]
  | p :: t, i, acc, h, ha, hi => by
    obtain ⟨a1, a2, a3⟩ := drop_cons h
    have hp := hb p (List.mem_of_getElem? a2)
    have hr : rdOf ByteArray.empty (L.map mk) (i : Int) = mk p := rdOf_of (by rw [List.getElem?_map, a2]; rfl)
    have hs : (mk p).size = p.length := by rw [size_B, B_mk]
    refine Ev.step (fun _ => vary_Parse.l0.eq_2 ..) (Ev.pos (by rw [List.length_map]; omega) (Ev.pos (by omega) (Ev.pos (by rw [List.length_map]; omega) ?_)))
    rw [hr, wrap_id (x := (i : Int) + 1) (by omega) (by omega), cast_succ, toList_B, B_mk]
    have hn := Name_ok (mk p) (by omega)
    have en : nm (mk p) = badP.nmL p := by unfold nm badP.nmL; rw [hs, B_mk]
    rw [en] at hn
    by_cases h42 : p = [42]
    · have e : (p :: t).any badP = true := by rw [List.any_cons]; unfold badP; rw [decide_eq_true h42]; rfl
      rw [if_pos (Or.inl e)]
      exact Ev.pos h42 (Ev.now _)
    · refine Ev.neg h42 (Ev.bind hn ?_)
      cases hnm : badP.nmL p with
      | false =>
        have e : (p :: t).any badP = true := by rw [List.any_cons]; unfold badP; rw [hnm, decide_eq_false h42]; rfl
        rw [if_pos (Or.inl e)]
        exact Ev.neg (by simp) (Ev.now _)
      | true =>
        have e : (p :: t).any badP = t.any badP := by rw [List.any_cons]; unfold badP; rw [hnm, decide_eq_false h42]; rfl
        have ih := VParse_loop L hL hb t (i + 1) (acc ++ [lowP p]) a3 (by simp; omega) (by omega)
        rw [List.append_assoc] at ih
        rw [e]
        exact Ev.pos rfl (Ev.bnd (Lower_ok (by omega)) (Ev.pos (by omega) ih))
theorem VParse_ok (v : List ByteArray) (hv : v.length ≤ 400) (hb : ∀ s ∈ v, s.size ≤ 1100000) : Ev (fun k => vary_Parse.f k v) (ruleOf v) := by
  unfold vary_Parse.f
  exact Ev.bind (Split17 v hv hb) (VParse_loop (splits v) (splits_count v hv hb) (splits_small v hb) (splits v) 0 [] rfl (by simp) (by omega))
theorem big44 (v : List ByteArray) (hv : v.length ≤ 100) (hb : ∀ s ∈ v, s.size ≤ 1100000) : (joinS 44 (splits v)).length ≤ 130000000000000 ∧ (splits v).length ≤ 500000000 := by
  have h1 := splits_few v
  have h2 : ∀ l : List ByteArray, (∀ s ∈ l, s.size ≤ 1100000) → (l.map fun y => (y.size + 1)).sum ≤ l.length * 1100001 := by
    intro l
    induction l with
    | nil => intro _; simp
    | cons x l ih =>
      intro h
      have := ih (fun s hs => h s (List.mem_cons_of_mem _ hs))
      have := h x (by simp)
      simp only [List.map_cons, List.sum_cons, List.length_cons, Nat.succ_mul]
      omega
  have h3 := h2 v hb
  have h4 := joinS_len 44 1100000 (splits v) (splits_small v hb)
  have h5 : (splits v).length ≤ 110000100 := by omega
  have h6 := Nat.mul_le_mul_right 1100001 h5
  omega
theorem VJoin (L : List (List UInt8)) (h1 : L.length ≤ 500000000) (h2 : (joinS 44 L).length ≤ 130000000000000) : strings_Join.f (L.map mk) (⟨#[44]⟩ : ByteArray) = some (mk (joinS 44 L)) := by
  unfold strings_Join.f
  have q : Lib.join ((L.map mk).map (·.data.toList)) [44] = joinS 44 L := by
    rw [← join_S, List.map_map]
    congr 1
    conv => rhs; rw [← List.map_id L]
    rfl
  show (if (L.map mk).length ≤ 140737488355328 ∧ (Lib.join ((L.map mk).map (·.data.toList)) [44]).length ≤ 140737488355328 then some (mk (Lib.join ((L.map mk).map (·.data.toList)) [44])) else none) = _
  rw [q, if_pos (show (L.map mk).length ≤ 140737488355328 ∧ (joinS 44 L).length ≤ 140737488355328 from ⟨by rw [List.length_map]; omega, by omega⟩)]
/-- Lines whose values (of the names that are asked for) are few and short. -/
def AskOk (names : List ByteArray) (l : List S36) : Prop := l.length ≤ 1000000 ∧ okL l ∧ ∀ n ∈ names, n.size ≤ 9223372036854775807 ∧ (allOf l n).length ≤ 100 ∧ ∀ s ∈ allOf l n, s.size ≤ 1100000
theorem VKey_loop (st : Bool) (names : List ByteArray) (l : List S36) (hn : names.length ≤ 1000000) (hl : AskOk names l) : ∀ (t : List ByteArray) (i : Nat) (acc : List ByteArray), names.drop i = t → acc.length ≤ i → Ev (fun k => vary_Key.l0 k l acc names (names.length : Int) (i : Int)) (acc ++ keyOf t l)
  | [], i, acc, h, ha => by
    have := drop_nil h
    exact Ev.step (fun _ => vary_Key.l0.eq_2 ..) (Ev.neg (by omega) (Ev.tell (by show acc = acc ++ []; rw [List.append_nil])))
  | n :: t, i, acc, h, ha => by
    obtain ⟨a1, a2, a3⟩ := drop_cons h
    have hr : rdOf ByteArray.empty names (i : Int) = n := rdOf_of a2
    obtain ⟨n1, n2, n3⟩ := hl.2.2 n (List.mem_of_getElem? a2)
    obtain ⟨b1, b2⟩ := big44 (allOf l n) n2 n3
    have e : keyOf (n :: t) l = [valOf (allOf l n)] ++ keyOf t l := rfl
    have ih := VKey_loop st names l hn hl t (i + 1) (acc ++ [valOf (allOf l n)]) a3 (by simp; omega)
    rw [List.append_assoc, ← e] at ih
    refine Ev.step (fun _ => vary_Key.l0.eq_2 ..) (Ev.pos (by omega) (Ev.pos (by omega) (Ev.pos (by omega) ?_)))
    rw [hr, wrap_id (x := (i : Int) + 1) (by omega) (by omega), cast_succ]
    refine Ev.bind (All_ok (by have := hl.1; omega) hl.2.1 n1) ?_
    by_cases h0 : allOf l n = []
    · have ev : valOf (allOf l n) = (⟨#[45]⟩ : ByteArray) := by unfold valOf; rw [if_pos h0]; rfl
      rw [ev] at ih
      exact Ev.pos (by rw [h0]; rfl) (Ev.pos (by omega) ih)
    · have ev : valOf (allOf l n) = (⟨#[61]⟩ : ByteArray) ++ mk (joinS 44 (splits (allOf l n))) := by unfold valOf; rw [if_neg h0]; apply B_inj; rw [B_append]; rfl
      rw [ev] at ih
      have hz : (mk (joinS 44 (splits (allOf l n)))).size = (joinS 44 (splits (allOf l n))).length := by rw [size_B, B_mk]
      exact Ev.neg (fun q => h0 (List.eq_nil_of_length_eq_zero (by omega))) (Ev.bind (Split17 _ (by omega) n3) (Ev.bnd (VJoin _ b2 b1) (Ev.pos (by omega) (Ev.pos (by omega) ih))))
theorem VKey_ok (st : Bool) (names : List ByteArray) (l : List S36) (hn : names.length ≤ 1000000) (hl : AskOk names l) : Ev (fun k => vary_Key.f k st names l) (keyOf names l) := VKey_loop st names l hn hl names 0 [] rfl (by simp)
theorem Equal_loop (a b : List ByteArray) (hl : a.length = b.length) (hb : a.length ≤ 1000000000) : ∀ (s t : List ByteArray) (i : Nat), a.drop i = s → b.drop i = t → Ev (fun k => slices_Equal_string_string.l0 k a b (a.length : Int) (i : Int)) (decide (s = t))
  | [], t, i, h1, h2 => by
    have := drop_nil h1
    have e : t = [] := by rw [← h2]; exact List.drop_eq_nil_of_le (by omega)
    rw [e]
    exact Ev.step (fun _ => slices_Equal_string_string.l0.eq_2 ..) (Ev.neg (by omega) (Ev.now _))
  | x :: s, [], i, h1, h2 => by
    have := drop_nil h2
    have := (drop_cons h1).1
    omega
  | x :: s, y :: t, i, h1, h2 => by
    obtain ⟨a1, a2, a3⟩ := drop_cons h1
    obtain ⟨b1, b2, b3⟩ := drop_cons h2
    refine Ev.step (fun _ => slices_Equal_string_string.l0.eq_2 ..) (Ev.pos (by omega) (Ev.pos (by omega) (Ev.pos (by omega) (Ev.pos (by omega) ?_))))
    rw [rdOf_of a2, rdOf_of b2, toList_B, toList_B]
    by_cases e0 : x = y
    · subst e0
      refine Ev.pos rfl ?_
      rw [wrap_id (by omega) (by omega), cast_succ]
      have ih := Equal_loop a b hl hb s t (i + 1) a3 b3
      have e2 : decide (x :: s = x :: t) = decide (s = t) := by simp
      rw [e2]; exact ih
    · refine Ev.neg (fun h => e0 (B_inj h)) ?_
      rw [decide_eq_false (fun h => e0 (List.cons.inj h).1)]; exact Ev.now _
theorem Equal_ok (a b : List ByteArray) (hb : a.length ≤ 1000000000) : Ev (fun k => slices_Equal_string_string.f k a b) (decide (a = b)) := by
  unfold slices_Equal_string_string.f
  by_cases h : a.length = b.length
  · exact Ev.pos (by omega) (Equal_loop a b h hb a b 0 rfl rfl)
  · refine Ev.neg (by omega) ?_
    rw [decide_eq_false (fun e => h (by rw [e]))]; exact Ev.now _
theorem VMatch_ok (r : Bool × List ByteArray) (a b : List S36) (hn : r.2.length ≤ 1000000) (ha : AskOk r.2 a) (hb : AskOk r.2 b) : Ev (fun k => vary_Match.f k r.1 r.2 a b) (matchOf r a b) := by
  unfold vary_Match.f matchOf
  cases h : r.1 with
  | true => exact Ev.pos rfl (Ev.now _)
  | false =>
    rw [Bool.not_false, Bool.true_and]
    exact Ev.neg (by simp) (Ev.bind (VKey_ok false r.2 a hn ha) (Ev.bind (VKey_ok false r.2 b hn hb) (Ev.bind (Equal_ok _ _ (by unfold keyOf; rw [List.length_map]; omega)) (Ev.now _))))
theorem LinesOk.ask {l : List S36} (h : LinesOk l) (hl : l.length ≤ 80) {names : List ByteArray} (hn : ∀ n ∈ names, 1 ≤ n.size ∧ n.size ≤ 9223372036854775807) : AskOk names l :=
  ⟨by omega, h.okL, fun n hn' => ⟨(hn n hn').2, by have := allOf_len l n; omega, (h.all n (hn n hn').1).2⟩⟩
theorem texts17_ok (l : List ByteArray) : ∃ b, Ev (fun k => sprlaw17_texts.f k l) b ∧ (b = true → l.length ≤ 80) := texts_loop l l 0 0 rfl (by omega) (by omega) (by omega)
where
  texts_loop (l : List ByteArray) : ∀ (t : List ByteArray) (i : Nat) (n : Int), l.drop i = t → 0 ≤ n → n ≤ 80000 → i ≤ 80 → ∃ b, Ev (fun k => sprlaw17_texts.l0 k l n (i : Int)) b ∧ (b = true → l.length ≤ 80)
  | [], i, n, h, h0, h1, hi => by
    have := drop_nil h
    by_cases hl : l.length ≤ 80
    · exact ⟨_, Ev.step (fun _ => sprlaw17_texts.l0.eq_2 ..) (Ev.neg (by omega) (Ev.pos (by omega) (Ev.now _))), fun _ => hl⟩
    · exact ⟨false, Ev.step (fun _ => sprlaw17_texts.l0.eq_2 ..) (Ev.neg (by omega) (Ev.neg (by omega) (Ev.now _))), fun h => by cases h⟩
  | x :: t, i, n, h, h0, h1, hi => by
    obtain ⟨a1, a2, a3⟩ := drop_cons h
    by_cases h80 : i < 80
    · have mn2 : ∀ a b : Int, mn a b ≤ b ∧ (0 ≤ a → 0 ≤ b → 0 ≤ mn a b) := by intro a b; unfold mn; split <;> omega
      obtain ⟨b, hb, hf⟩ := texts_loop l t (i + 1) (mn (wrap64 (n + (mn ((rdOf ByteArray.empty l (i : Int)).size : Int) 20000))) 80000) a3 (by
        have q1 := mn2 ((rdOf ByteArray.empty l (i : Int)).size : Int) 20000
        have q3 := q1.2 (by omega) (by omega)
        rw [wrap_id (by omega) (by omega)]
        exact (mn2 _ _).2 (by omega) (by omega)) ((mn2 _ _).1) (by omega)
      refine ⟨b, Ev.step (fun _ => sprlaw17_texts.l0.eq_2 ..) (Ev.pos (by omega) (Ev.pos (by omega) (Ev.pos (by omega) ?_))), hf⟩
      rw [wrap_id (x := (i : Int) + 1) (by omega) (by omega), cast_succ]
      exact hb
    · refine ⟨false, Ev.step (fun _ => sprlaw17_texts.l0.eq_2 ..) (Ev.pos (by omega) (Ev.neg (by omega) (Ev.neg (by omega) (Ev.now _)))), fun h => by cases h⟩
theorem first17_ok : Ev (fun k => sprlaw17_first.f k) true := by
  have e1 : ruleOf [(⟨#[65, 99, 99, 101, 112, 116, 44, 32, 97, 99, 99, 101, 112, 116, 44, 32, 88]⟩ : ByteArray)] = (false, [(⟨#[97, 99, 99, 101, 112, 116]⟩ : ByteArray), (⟨#[120]⟩ : ByteArray)]) := by decide +kernel
  have e2 : keyOf [(⟨#[97, 99, 99, 101, 112, 116]⟩ : ByteArray), (⟨#[120]⟩ : ByteArray)] [(⟨(⟨#[65, 99, 99, 101, 112, 116]⟩ : ByteArray), (⟨#[97, 32, 44, 32, 98]⟩ : ByteArray)⟩ : S36)] = [(⟨#[61, 97, 44, 98]⟩ : ByteArray), (⟨#[45]⟩ : ByteArray)] := by decide +kernel
  have h1 := VParse_ok [(⟨#[65, 99, 99, 101, 112, 116, 44, 32, 97, 99, 99, 101, 112, 116, 44, 32, 88]⟩ : ByteArray)] (by decide) (by decide)
  rw [e1] at h1
  have h2 := VKey_ok false [(⟨#[97, 99, 99, 101, 112, 116]⟩ : ByteArray), (⟨#[120]⟩ : ByteArray)] [(⟨(⟨#[65, 99, 99, 101, 112, 116]⟩ : ByteArray), (⟨#[97, 32, 44, 32, 98]⟩ : ByteArray)⟩ : S36)] (by decide) ⟨by decide, by unfold okL; decide, by decide +kernel⟩
  rw [e2] at h2
  have t1 := Texts_ok [(⟨#[97, 99, 99, 101, 112, 116]⟩ : ByteArray), (⟨#[120]⟩ : ByteArray)] [(⟨#[97, 99, 99, 101, 112, 116]⟩ : ByteArray), (⟨#[120]⟩ : ByteArray)] (by decide)
  have t2 := Texts_ok [(⟨#[61, 97, 44, 98]⟩ : ByteArray), (⟨#[45]⟩ : ByteArray)] [(⟨#[61, 97, 44, 98]⟩ : ByteArray), (⟨#[45]⟩ : ByteArray)] (by decide)
  rw [decide_eq_true rfl] at t1 t2
  unfold sprlaw17_first.f
  exact Ev.bind h1 (Ev.neg (by simp) (Ev.bind t1 (Ev.pos rfl (Ev.bind h2 (Ev.bind t2 (Ev.now _))))))
theorem Has_loop (l : List ByteArray) (s : ByteArray) (hl : l.length ≤ 1000000) : ∀ (t : List ByteArray) (i : Nat), l.drop i = t → Ev (fun k => sprref_Has.l0 k l s (i : Int)) (t.any fun x => decide (x = s))
  | [], i, ht => by
    have := drop_nil ht
    exact Ev.step (fun _ => sprref_Has.l0.eq_2 ..) (Ev.neg (by omega) (Ev.now _))
  | x :: t, i, ht => by
    obtain ⟨a1, a2, a3⟩ := drop_cons ht
    refine Ev.step (fun _ => sprref_Has.l0.eq_2 ..) (Ev.pos (by omega) (Ev.pos (by omega) ?_))
    rw [rdOf_of a2, toList_B, toList_B]
    by_cases h : x = s
    · refine Ev.pos (by rw [h]) ?_
      rw [List.any_cons, decide_eq_true h]; exact Ev.now _
    · refine Ev.neg (fun e => h (B_inj e)) ?_
      rw [wrap_id (x := (i : Int) + 1) (by omega) (by omega), cast_succ, List.any_cons, decide_eq_false h, Bool.false_or]
      exact Has_loop l s hl t (i + 1) a3
theorem Rises_loop (l : List ByteArray) (hl : l.length ≤ 1000000) (hp : l.Pairwise ltB) : ∀ (n i : Nat), l.length - i = n → 1 ≤ i → Ev (fun k => sprref_Rises.l0 k l (i : Int)) true
  | 0, i, h, h1 => Ev.step (fun _ => sprref_Rises.l0.eq_2 ..) (Ev.neg (by omega) (Ev.now _))
  | n + 1, i, h, h1 => by
    have hi : i < l.length := by omega
    have e : wrap64 ((i : Int) - 1) = ((i - 1 : Nat) : Int) := by rw [wrap_id (by omega) (by omega)]; omega
    refine Ev.step (fun _ => sprref_Rises.l0.eq_2 ..) (Ev.pos (by omega) (Ev.pos (by omega) ?_))
    rw [e, rdOf_of (List.getElem?_eq_getElem hi), rdOf_of (List.getElem?_eq_getElem (show i - 1 < l.length by omega)), less_B, wrap_id (x := (i : Int) + 1) (by omega) (by omega), cast_succ]
    have hlt : B l[i - 1] < B l[i] := List.pairwise_iff_getElem.1 hp (i - 1) i (by omega) hi (by omega)
    exact Ev.pos (by omega) (Ev.pos (by omega) (Ev.pos (decide_eq_true hlt) (Rises_loop l hl hp n (i + 1) (by omega) (by omega))))
def numsOf (l : List UInt8) : List Int := l.map fun c => (c.toNat : Int)
theorem nums_str (l : List UInt8) : strOfNums (numsOf l) = ⟨l.toArray⟩ := by
  unfold strOfNums numsOf
  congr 2
  rw [List.map_map]
  conv => rhs; rw [← List.map_id l]
  congr 1
  funext c
  simp
theorem lowTo_keep {s : ByteArray} {i : Nat} (h : i < s.size) (e : Own.lowb (s.data.toList[i]'h) = s.data.toList[i]'h) : Own.lowTo s (i + 1) = Own.lowTo s i := by
  rw [Own.lowTo_succ s i h, e]
  obtain ⟨h3, h4⟩ := List.getElem?_eq_some_iff.1 (Own.lowTo_at s i h)
  conv => lhs; rw [← h4]
  rw [List.set_getElem_self]
theorem low_loop (a b : List S36) (s : ByteArray) (hs : s.size ≤ 1000000) (st : Bool) (names : List ByteArray) {r : Bool} (next : Ev (fun k => sprlaw17_VarySides.l0 k a b s (numsOf (Own.lowTo s s.size)) (s.size : Int) st names) r) : ∀ (n i : Nat), s.size - i = n → i ≤ s.size → Ev (fun k => sprlaw17_VarySides.l0 k a b s (numsOf (Own.lowTo s i)) (i : Int) st names) r
  | 0, i, h, hi => by
    obtain rfl : i = s.size := by omega
    exact next
  | n + 1, i, h, hi => by
    have hlt : i < s.size := by omega
    have ih := low_loop a b s hs st names next n (i + 1) (by omega) (by omega)
    have hlen : (numsOf (Own.lowTo s i)).length = s.size := by unfold numsOf; rw [List.length_map, Own.lowTo_length]
    have hrd : rd (numsOf (Own.lowTo s i)) (i : Int) = ((s.data.toList[i]'hlt).toNat : Int) := rd_of (by unfold numsOf; rw [List.getElem?_map, Own.lowTo_at s i hlt]; rfl)
    refine Ev.step (fun _ => sprlaw17_VarySides.l0.eq_2 ..) (Ev.pos (by omega) (Ev.pos (by omega) ?_))
    rw [hrd, wrap_id (x := (i : Int) + 1) (by omega) (by omega), cast_succ]
    by_cases g1 : ((s.data.toList[i]'hlt).toNat : Int) ≥ 65
    · refine Ev.pos g1 ?_
      by_cases g2 : ((s.data.toList[i]'hlt).toNat : Int) ≤ 90
      · refine Ev.pos g2 ?_
        have e : (numsOf (Own.lowTo s i)).set ((i : Int)).toNat ((((s.data.toList[i]'hlt).toNat : Int) + 32) % 256) = numsOf (Own.lowTo s (i + 1)) := by
          unfold numsOf
          rw [Own.lowTo_succ s i hlt, List.map_set, Own.lowb_up g1 g2, Int.toNat_natCast]
          congr 1
          omega
        rw [e]
        exact ih
      · rw [lowTo_keep hlt (Own.lowb_same (fun q => g2 q.2))] at ih
        exact Ev.neg g2 ih
    · rw [lowTo_keep hlt (Own.lowb_same (fun q => g1 q.1))] at ih
      exact Ev.neg g1 ih
theorem low_all (s : ByteArray) : strOfNums (numsOf (Own.lowTo s s.size)) = Own.low s := by
  rw [nums_str, Own.lowTo_all]; rfl
theorem bytes_nums (s : ByteArray) : bytesOf s = numsOf (Own.lowTo s 0) := by
  unfold bytesOf numsOf Own.lowTo
  simp
theorem other_all (a : List S36) (f c n : ByteArray) (hf : Own.same f n = false) : allOf (a ++ [(⟨f, c⟩ : S36)]) n = allOf a n := by
  unfold allOf
  rw [List.filter_append, List.filter_cons, if_neg (by rw [hf]; simp), List.filter_nil, List.append_nil]
theorem match_turn (r : Bool × List ByteArray) (a b : List S36) : matchOf r a b = matchOf r b a := by
  unfold matchOf
  congr 1
  exact decide_eq_decide.2 ⟨Eq.symm, Eq.symm⟩
theorem match_self (r : Bool × List ByteArray) (a : List S36) : matchOf r a a = !r.1 := by
  unfold matchOf
  rw [decide_eq_true rfl, Bool.and_true]
theorem VarySides (v : List ByteArray) (l m : List S36) (o : ByteArray) (g0 : v.length ≤ maxLen ∧ ∀ x ∈ v, x.size ≤ maxLen) (g1 : l.length ≤ maxLen ∧ ∀ x ∈ l, x.f0.size ≤ maxLen ∧ x.f1.size ≤ maxLen) (g2 : m.length ≤ maxLen ∧ ∀ x ∈ m, x.f0.size ≤ maxLen ∧ x.f1.size ≤ maxLen) (g3 : o.size ≤ maxLen)
    (hk : ((v.map fun y => (y.size + 1)).sum + 1) + ((l.map fun y => ((y.f0.size + 1) + (y.f1.size + 1) + 1)).sum + 1) + ((m.map fun y => ((y.f0.size + 1) + (y.f1.size + 1) + 1)).sum + 1) + (o.size + 1) ≤ 1048576) : ∃ k, sprlaw17_VarySides.f k v l m o = some true := by
  obtain ⟨ha1, ha2⟩ := sum_size v
  have big : Ev (fun k => sprlaw17_VarySides.j0 k v l m o true) true := Ev.step (fun _ => sprlaw17_VarySides.j0.eq_2 ..) (Ev.pos rfl (Ev.bind first17_ok (Ev.now _)))
  refine Ev.rounds ?_
  unfold sprlaw17_VarySides.f
  refine Ev.bind first17_ok (Ev.pos rfl ?_)
  obtain ⟨b0, hb0, hf0⟩ := texts17_ok v
  refine Ev.bind hb0 ?_
  cases b0 with
  | false => exact Ev.neg (by simp) big
  | true =>
  have l0 := hf0 rfl
  refine Ev.pos rfl ?_
  obtain ⟨b1, hb1, hf1⟩ := Few_ok l
  refine Ev.bind hb1 ?_
  cases b1 with
  | false => exact Ev.neg (by simp) big
  | true =>
  have l1 := hf1 rfl
  refine Ev.pos rfl ?_
  obtain ⟨b2, hb2, hf2⟩ := Few_ok m
  refine Ev.bind hb2 ?_
  cases b2 with
  | false => exact Ev.neg (by simp) big
  | true =>
  have l2 := hf2 rfl
  refine Ev.pos rfl ?_
  by_cases hs : (o.size : Int) > 1000
  · rw [decide_eq_true hs]; exact big
  rw [decide_eq_false hs]
  have hL := LinesOk.of g1 l1
  have hM := LinesOk.of g2 l2
  have sa : ∀ x ∈ v, x.size ≤ 1100000 := fun x hx => by have := ha2 x hx; omega
  have hP := VParse_ok v (by omega) sa
  have r1 := rule_facts v
  generalize ruleOf v = R at *
  have aL := hL.ask l1.1 (fun x hx => by have := r1.2.1 x hx; omega)
  have aM := hM.ask l2.1 (fun x hx => by have := r1.2.1 x hx; omega)
  have hLL := VMatch_ok R l l (by omega) aL aL
  have hLM := VMatch_ok R l m (by omega) aL aM
  have hML := VMatch_ok R m l (by omega) aM aL
  have hK := VKey_ok R.1 R.2 l (by omega) aL
  rw [match_self] at hLL
  rw [match_turn R m l] at hML
  have hRi : Ev (fun k => sprref_Rises.f k R.2) true := Rises_loop R.2 (by omega) r1.2.2.1 _ 1 rfl (by omega)
  have last : Ev (fun k => sprlaw17_VarySides.j1 k l m o false R.1 R.2) true := by
    refine Ev.step (fun _ => sprlaw17_VarySides.j1.eq_2 ..) (Ev.neg (by simp) ?_)
    rw [bytes_nums]
    refine low_loop l m o (by omega) R.1 R.2 ?_ _ 0 rfl (by omega)
    have hH := Has_loop R.2 (Own.low o) (by omega) _ 0 rfl
    rw [List.drop_zero] at hH
    have hH : Ev (fun k => sprref_Has.f k R.2 (Own.low o)) (R.2.any fun x => decide (x = Own.low o)) := hH
    have hlen : (numsOf (Own.lowTo o o.size)).length = o.size := by unfold numsOf; rw [List.length_map, Own.lowTo_length]
    refine Ev.step (fun _ => sprlaw17_VarySides.l0.eq_2 ..) (Ev.neg (by omega) ?_)
    rw [low_all]
    refine Ev.bind hH ?_
    cases hany : R.2.any fun x => decide (x = Own.low o) with
    | true => exact Ev.pos rfl (Ev.bind first17_ok (Ev.now _))
    | false =>
      have hne : ∀ n ∈ R.2, Own.same o n = false := by
        intro n hn
        cases e : Own.same o n with
        | false => rfl
        | true =>
          exfalso
          have e1 := (same_iff o n).1 e
          rw [(r1.2.1 n hn).2.2] at e1
          have : (R.2.any fun x => decide (x = Own.low o)) = true := List.any_eq_true.2 ⟨n, hn, decide_eq_true e1.symm⟩
          rw [hany] at this; cases this
      have hC : LinesOk (l ++ [(⟨o, (⟨#[120]⟩ : ByteArray)⟩ : S36)]) := ⟨by simp; omega, hL.okL.append (fun x hx => by rw [List.mem_singleton.1 hx]; exact ⟨by show o.size ≤ _; omega, by show 1 ≤ _; omega⟩), fun x hx h1 => by
        rcases List.mem_append.1 hx with q | q
        · exact hL.val x q h1
        · rw [List.mem_singleton.1 q]; show 1 ≤ _; omega⟩
      have aC : AskOk R.2 (l ++ [(⟨o, (⟨#[120]⟩ : ByteArray)⟩ : S36)]) := by
        refine ⟨by simp; omega, hC.okL, fun n hn => ?_⟩
        have hz := r1.2.1 n hn
        refine ⟨by omega, ?_, (hC.all n hz.1).2⟩
        have hq := allOf_len (l ++ [(⟨o, (⟨#[120]⟩ : ByteArray)⟩ : S36)]) n
        simp only [List.length_append, List.length_cons, List.length_nil] at hq
        omega
      have ek : keyOf R.2 (l ++ [(⟨o, (⟨#[120]⟩ : ByteArray)⟩ : S36)]) = keyOf R.2 l := by
        unfold keyOf
        exact List.map_congr_left (fun n hn => by rw [other_all _ _ _ _ (hne n hn)])
      have hKC := VKey_ok R.1 R.2 _ (by omega) aC
      rw [ek] at hKC
      have hMC := VMatch_ok R _ m (by omega) aC aM
      have em : matchOf R (l ++ [(⟨o, (⟨#[120]⟩ : ByteArray)⟩ : S36)]) m = matchOf R l m := by unfold matchOf; rw [ek]
      rw [em] at hMC
      have hT := Texts_ok (keyOf R.2 l) (keyOf R.2 l) (by unfold keyOf; rw [List.length_map]; omega)
      rw [decide_eq_true rfl] at hT
      exact Ev.neg (by simp) (Ev.bnd (CopyFields_ok l (by omega)) (Ev.pos (by omega) (Ev.bnd rfl (Ev.bind first17_ok (Ev.pos rfl (Ev.bind hKC (Ev.bind hK (Ev.bind hT (Ev.pos rfl (Ev.bind hMC (Ev.bind hLM (Ev.tell (by simp)))))))))))))
  refine Ev.step (fun _ => sprlaw17_VarySides.j0.eq_2 ..) (Ev.neg (by simp) (Ev.bind hP (Ev.bind hLL (Ev.neg (by cases R.1 <;> simp) (Ev.bind hLM (Ev.bind hML (Ev.neg (by simp) (Ev.bind hK (Ev.pos (by unfold keyOf; rw [List.length_map]) ?_)))))))))
  cases hst : R.1 with
  | false =>
    rw [hst] at last
    exact Ev.neg (by simp) (Ev.bind hRi last)
  | true =>
    rw [hst] at last
    have hnil := r1.2.2.2 hst
    exact Ev.pos rfl (Ev.neg (by rw [hnil]; simp) (Ev.bind hRi last))

end Go.Proofs.YtnmmlcjcilfgkaaDoor.Pure
