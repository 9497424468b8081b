/-
The law HeadSplits: values cut into pieces, lines merged, by the program and by the reference, are the same; the values stay.
-/
import Derived.Test.YtmcjmmdejgoamaaDoorQ7
set_option linter.unusedVariables false
set_option linter.unusedSimpArgs false
namespace Go.Proofs.YtmcjmmdejgoamaaDoor.Pure
open Go.RowKit Go.Proofs.YtmcjmmdejgoamaaDoor.Q Go.Proofs.YtmcjmmdejgoamaaDoorW.PrintWords Go.Proofs.YtmcjmmdejgoamaaDoorW.PrintLast
theorem wrap_id {x : Int} (h0 : -9223372036854775808 ≤ x) (h1 : x ≤ 9223372036854775807) : wrap64 x = x := by unfold wrap64; omega
theorem Ev.succ {α : Type} {g : Nat → Option α} {r : α} (h : Ev (fun k => g (k + 1)) r) : Ev g r := Ev.step (fun _ => rfl) h
theorem Ev.konst {α : Type} {o : Option α} {r : α} (h : o = some r) : Ev (fun _ => o) r := ⟨0, fun _ _ => h⟩
theorem Ev.at {α : Type} {g : Nat → Option α} {r : α} (K : Nat) (h : ∀ k, g (k + K) = some r) : Ev g r := ⟨K, fun n hn => by
  obtain ⟨m, rfl⟩ : ∃ m, n = m + K := ⟨n - K, by omega⟩
  exact h m⟩
theorem drop_cons {α : Type} {l : List α} {i : Nat} {c : α} {t : List α} (h : l.drop i = c :: t) : i < l.length ∧ l[i]? = some c ∧ l.drop (i + 1) = t := by
  have h1 : (l.drop i)[0]? = some c := by rw [h]; rfl
  rw [List.getElem?_drop] at h1
  simp only [Nat.add_zero] at h1
  refine ⟨(List.getElem?_eq_some_iff.1 h1).1, h1, ?_⟩
  rw [← List.drop_drop, h]; rfl
theorem drop_nil {α : Type} {l : List α} {i : Nat} (h : l.drop i = []) : l.length ≤ i := by
  simpa using h
theorem rd_of {l : List Int} {i : Nat} {c : Int} (h : l[i]? = some c) : rd l (i : Int) = c := by
  unfold rd; rw [Int.toNat_natCast, List.getD_eq_getElem?_getD, h]; rfl
theorem rdOf_of {α : Type} {d : α} {l : List α} {i : Nat} {c : α} (h : l[i]? = some c) : rdOf d l (i : Int) = c := by
  unfold rdOf; rw [Int.toNat_natCast, List.getD_eq_getElem?_getD, h]; rfl
theorem cast_succ (i : Nat) : ((i : Int) + 1) = ((i + 1 : Nat) : Int) := by omega
theorem Ev.pos {α : Type} {c : Prop} [Decidable c] {A B : Nat → Option α} {r : α} (h : c) (k : Ev A r) : Ev (fun n => if c then A n else B n) r := Ev.congr (fun _ => if_pos h) k
theorem Ev.neg {α : Type} {c : Prop} [Decidable c] {A B : Nat → Option α} {r : α} (h : ¬ c) (k : Ev B r) : Ev (fun n => if c then A n else B n) r := Ev.congr (fun _ => if_neg h) k
theorem Ev.bnd {α β : Type} {o : Option β} {a : β} {f : Nat → β → Option α} {r : α} (h : o = some a) (k : Ev (fun n => f n a) r) : Ev (fun n => o.bind (f n)) r := by
  subst h; exact k
/-- A text's bytes. -/
def B (s : ByteArray) : List UInt8 := s.data.toList
def mk (l : List UInt8) : ByteArray := ⟨l.toArray⟩
theorem B_mk (l : List UInt8) : B (mk l) = l := rfl
theorem mk_B (s : ByteArray) : mk (B s) = s := rfl
theorem B_inj {s t : ByteArray} (h : B s = B t) : s = t := by rw [← mk_B s, ← mk_B t, h]
theorem toList_B (s : ByteArray) : s.toList = B s := Lib.toList_data s
theorem size_B (s : ByteArray) : s.size = (B s).length := Lib.size_eq s
theorem B_extract (s : ByteArray) (a b : Nat) : B (s.extract a b) = ((B s).drop a).take (b - a) := Lib.extract_data s a b
theorem B_append (s t : ByteArray) : B (s ++ t) = B s ++ B t := by
  unfold B
  rw [ByteArray.data_append, Array.toList_append]
theorem B_to (s : ByteArray) (n : Nat) : B (s.extract 0 n) = (B s).take n := by rw [B_extract, List.drop_zero, Nat.sub_zero]
theorem B_from (s : ByteArray) (n : Nat) : B (s.extract n s.size) = (B s).drop n := by
  rw [B_extract, size_B]
  exact List.take_of_length_le (by rw [List.length_drop]; omega)
theorem bt_of {s : ByteArray} {i : Nat} {c : UInt8} (h : (B s)[i]? = some c) : bt s (i : Int) = (c.toNat : Int) := by
  unfold bt
  have hi : i < s.size := by rw [size_B]; exact (List.getElem?_eq_some_iff.1 h).1
  rw [Int.toNat_natCast, dif_pos hi]
  have : (s[i]'hi) = c := by
    have h1 : (B s)[i]? = some (s[i]'hi) := by
      unfold B
      rw [Array.getElem?_toList]
      exact Array.getElem?_eq_getElem _
    rw [h1] at h
    exact Option.some.inj h
  rw [this]
/-- The byte that a suffix begins with. -/
theorem bt_drop {s : ByteArray} {i : Nat} {c : UInt8} {t : List UInt8} (h : (B s).drop i = c :: t) : bt s (i : Int) = (c.toNat : Int) ∧ i < s.size ∧ (B s).drop (i + 1) = t := by
  obtain ⟨h1, h2, h3⟩ := drop_cons h
  exact ⟨bt_of h2, by rw [size_B]; exact h1, h3⟩
theorem end_drop {s : ByteArray} {i : Nat} (h : (B s).drop i = []) : s.size ≤ i := by rw [size_B]; exact drop_nil h
theorem u8_eq (c : UInt8) (n : Nat) (h : n < 256) : ((c.toNat : Int) = (n : Int)) ↔ c = UInt8.ofNat n := by
  constructor
  · intro e
    have e' : c.toNat = n := by omega
    rw [← e']; exact (UInt8.ofNat_toNat).symm
  · intro e
    rw [e, UInt8.toNat_ofNat']
    have : n % 2 ^ 8 = n := Nat.mod_eq_of_lt h
    omega
theorem u8_lt (c : UInt8) : (c.toNat : Int) < 256 ∧ 0 ≤ (c.toNat : Int) := by
  have := UInt8.toNat_lt c
  omega
/-! names in small letters -/
theorem lowb_low (c : UInt8) : Own.lowb (Own.lowb c) = Own.lowb c := by
  by_cases h : 65 ≤ c.toNat ∧ c.toNat ≤ 90
  · have e : Own.lowb c = c + 32 := by unfold Own.lowb; rw [if_pos h]
    have h2 : (c + 32).toNat = c.toNat + 32 := by
      rw [UInt8.toNat_add]
      show (c.toNat + 32) % 256 = _
      omega
    rw [e]
    unfold Own.lowb
    rw [if_neg (by omega)]
  · have e : Own.lowb c = c := by unfold Own.lowb; rw [if_neg h]
    rw [e, e]
theorem low_low (s : ByteArray) : Own.low (Own.low s) = Own.low s := by
  apply B_inj
  show ((s.data.toList.map Own.lowb).map Own.lowb) = s.data.toList.map Own.lowb
  rw [List.map_map]
  congr 1
  funext c
  exact lowb_low c
theorem low_size (s : ByteArray) : (Own.low s).size = s.size := by
  rw [size_B, size_B s]
  show (s.data.toList.map Own.lowb).length = _
  rw [List.length_map]; rfl
theorem same_iff (a b : ByteArray) : Own.same a b = true ↔ Own.low a = Own.low b := by
  unfold Own.same
  rw [toList_B, toList_B, beq_iff_eq]
  exact ⟨B_inj, fun h => by rw [h]⟩
theorem same_congr {a a' b b' : ByteArray} (h1 : Own.low a = Own.low a') (h2 : Own.low b = Own.low b') : Own.same a b = Own.same a' b' := by
  rw [Bool.eq_iff_iff, same_iff, same_iff, h1, h2]
theorem same_low (a b : ByteArray) : Own.same a (Own.low b) = Own.same a b := same_congr rfl (low_low b)
theorem same_self (a : ByteArray) : Own.same a a = true := (same_iff a a).2 rfl
theorem okS_of {s : ByteArray} (h : s.size ≤ 9223372036854775807) : Own.okS s = true := decide_eq_true h
instance : DecidableEq S45 := fun a b => decidable_of_iff (a.f0 = b.f0 ∧ a.f1 = b.f1) ⟨fun h => by cases a; cases b; cases h.1; cases h.2; rfl, fun h => by rw [h]; exact ⟨rfl, rfl⟩⟩
/-- Lines that the form lets in. -/
def okL (l : List S45) : Prop := ∀ x ∈ l, x.f0.size ≤ 9223372036854775807 ∧ x.f1.size ≤ 9223372036854775807
theorem okL.all {l : List S45} (h : okL l) : (l.all fun x => Own.okS x.f0) = true := List.all_eq_true.2 fun x hx => okS_of (h x hx).1
theorem okL.filter {l : List S45} (h : okL l) (p : S45 → Bool) : okL (l.filter p) := fun x hx => h x (List.mem_filter.1 hx).1
theorem okL.append {l m : List S45} (h : okL l) (k : okL m) : okL (l ++ m) := fun x hx => (List.mem_append.1 hx).elim (h x) (k x)
theorem allOf_append (l m : List S45) (n : ByteArray) : allOf (l ++ m) n = allOf l n ++ allOf m n := by
  unfold allOf; rw [List.filter_append, List.map_append]
theorem allOf_nil_iff (l : List S45) (n : ByteArray) : allOf l n = [] ↔ ∀ x ∈ l, Own.same x.f0 n = false := by
  unfold allOf
  rw [List.map_eq_nil_iff, List.filter_eq_nil_iff]
  exact ⟨fun h x hx => by simpa using h x hx, fun h x hx => by simpa using h x hx⟩
theorem allOf_congr (l : List S45) {a b : ByteArray} (h : Own.low a = Own.low b) : allOf l a = allOf l b := by
  unfold allOf
  congr 2
  funext x
  exact same_congr rfl h
theorem allOf_len (l : List S45) (n : ByteArray) : (allOf l n).length ≤ l.length := by
  unfold allOf; rw [List.length_map]; exact List.length_filter_le _ _
theorem Texts_loop (a b : List ByteArray) (hl : a.length = b.length) (hb : a.length ≤ 1000000000) : ∀ (s t : List ByteArray) (i : Nat), a.drop i = s → b.drop i = t → Ev (fun k => sprref_Texts.l0 k a b i) (decide (s = t))
  | [], t, i, hs, ht => by
    have h1 := drop_nil hs
    have h2 : t = [] := by rw [← ht]; exact List.drop_eq_nil_of_le (by omega)
    subst h2
    exact Ev.step (fun _ => sprref_Texts.l0.eq_2 ..) (Ev.neg (by omega) (Ev.now _))
  | c :: s, [], i, hs, ht => by
    have h1 := drop_nil ht
    have h2 := drop_cons hs
    omega
  | c :: s, d :: t, i, hs, ht => by
    obtain ⟨h1, h2, h3⟩ := drop_cons hs
    obtain ⟨g1, g2, g3⟩ := drop_cons ht
    refine Ev.step (fun _ => sprref_Texts.l0.eq_2 ..) (Ev.pos (by omega) (Ev.pos (by omega) (Ev.pos (by omega) ?_)))
    rw [rdOf_of h2, rdOf_of g2, toList_B, toList_B]
    by_cases e : c = d
    · refine Ev.pos (by rw [e]) ?_
      rw [wrap_id (by omega) (by omega), cast_succ]
      have := Texts_loop a b hl hb s t (i + 1) h3 g3
      simpa [e] using this
    · refine Ev.neg (fun h => e (B_inj h)) ?_
      exact Ev.konst (by simp [e])
theorem Texts_ok (a b : List ByteArray) (hb : a.length ≤ 1000000000) : Ev (fun k => sprref_Texts.f k a b) (decide (a = b)) := by
  unfold sprref_Texts.f
  by_cases h : a.length = b.length
  · exact Ev.pos (by omega) (Texts_loop a b h hb a b 0 rfl rfl)
  · refine Ev.neg (by omega) (Ev.konst ?_)
    have : a ≠ b := fun e => h (by rw [e])
    simp [this]
theorem Lower_ok {s : ByteArray} (h : s.size ≤ 9223372036854775807) : head_Lower.f s = some (Own.low s) := by
  unfold head_Lower.f; rw [if_pos h]
theorem All_ok {l : List S45} (hl : l.length < 4398046511104) (ho : okL l) {n : ByteArray} (hn : n.size ≤ 9223372036854775807) : Ev (fun k => head_All.f k l n) (allOf l n) :=
  Ev.of (fun k => head_All.mono _ _ k) (head_All_is l n hl (okS_of hn) (fun x hx => okS_of (ho x hx).1))
theorem Fields_loop (a b : List S45) (hl : a.length = b.length) (hb : a.length ≤ 1000000000) : ∀ (s t : List S45) (i : Nat), a.drop i = s → b.drop i = t → Ev (fun k => sprref_Fields.l0 k a b (i : Int)) (decide (s = t))
  | [], t, i, h1, h2 => by
    have := drop_nil h1
    have e : t = [] := by rw [← h2]; exact List.drop_eq_nil_of_le (by omega)
    rw [e]
    exact Ev.step (fun _ => sprref_Fields.l0.eq_2 ..) (Ev.neg (by omega) (Ev.now _))
  | x :: s, [], i, h1, h2 => by
    have := drop_nil h2
    have := (drop_cons h1).1
    omega
  | x :: s, y :: t, i, h1, h2 => by
    obtain ⟨a1, a2, a3⟩ := drop_cons h1
    obtain ⟨b1, b2, b3⟩ := drop_cons h2
    have r1 : rd_T45 a (i : Int) = x := by unfold rd_T45; rw [Int.toNat_natCast, List.getD_eq_getElem?_getD, a2]; rfl
    have r2 : rd_T45 b (i : Int) = y := by unfold rd_T45; rw [Int.toNat_natCast, List.getD_eq_getElem?_getD, b2]; rfl
    refine Ev.step (fun _ => sprref_Fields.l0.eq_2 ..) (Ev.pos (by omega) (Ev.pos (by omega) (Ev.pos (by omega) ?_)))
    rw [r1, r2, toList_B, toList_B, toList_B, toList_B]
    by_cases e0 : x.f0 = y.f0
    · refine Ev.pos (by rw [e0]) ?_
      by_cases e1 : x.f1 = y.f1
      · refine Ev.pos (by rw [e1]) ?_
        rw [wrap_id (by omega) (by omega), cast_succ]
        have e : x = y := by cases x; cases y; cases e0; cases e1; rfl
        have ih := Fields_loop a b hl hb s t (i + 1) a3 b3
        have e2 : decide (x :: s = y :: t) = decide (s = t) := by rw [e]; simp
        rw [e2]; exact ih
      · refine Ev.neg (fun h => e1 (B_inj h)) ?_
        rw [decide_eq_false (fun h => e1 (by rw [(List.cons.inj h).1]))]; exact Ev.now _
    · refine Ev.neg (fun h => e0 (B_inj h)) ?_
      rw [decide_eq_false (fun h => e0 (by rw [(List.cons.inj h).1]))]; exact Ev.now _
theorem Fields_ok (a b : List S45) (hb : a.length ≤ 1000000000) : Ev (fun k => sprref_Fields.f k a b) (decide (a = b)) := by
  unfold sprref_Fields.f
  by_cases h : a.length = b.length
  · exact Ev.pos (by omega) (Fields_loop a b h hb a b 0 rfl rfl)
  · refine Ev.neg (by omega) ?_
    rw [decide_eq_false (fun e => h (by rw [e]))]; exact Ev.now _
/-- Few lines: at most 80. -/
theorem Few_loop (l : List S45) : ∀ (t : List S45) (i : Nat) (n : Int), l.drop i = t → 0 ≤ n → n ≤ 80000 → i ≤ 80 → ∃ b, Ev (fun k => sprlaw13_Few.l0 k l n (i : Int)) b ∧ (b = true → l.length ≤ 80)
  | [], i, n, h, h0, h1, hi => by
    have := drop_nil h
    by_cases hl : l.length ≤ 80
    · exact ⟨_, Ev.step (fun _ => sprlaw13_Few.l0.eq_2 ..) (Ev.neg (by omega) (Ev.pos (by omega) (Ev.now _))), fun _ => hl⟩
    · exact ⟨false, Ev.step (fun _ => sprlaw13_Few.l0.eq_2 ..) (Ev.neg (by omega) (Ev.neg (by omega) (Ev.now _))), fun h => by cases h⟩
  | x :: t, i, n, h, h0, h1, hi => by
    obtain ⟨a1, a2, a3⟩ := drop_cons h
    by_cases h80 : i < 80
    · have mn2 : ∀ a b : Int, mn a b ≤ b ∧ (0 ≤ a → 0 ≤ b → 0 ≤ mn a b) := by intro a b; unfold mn; split <;> omega
      obtain ⟨b, hb, hf⟩ := Few_loop l t (i + 1) (mn (wrap64 ((wrap64 (n + (mn (((rd_T45 l (i : Int)).f0).size : Int) 20000))) + (mn (((rd_T45 l (i : Int)).f1).size : Int) 20000))) 80000) a3 (by
        have q1 := mn2 (((rd_T45 l (i : Int)).f0).size : Int) 20000
        have q2 := mn2 (((rd_T45 l (i : Int)).f1).size : Int) 20000
        have q3 := q1.2 (by omega) (by omega)
        have q4 := q2.2 (by omega) (by omega)
        rw [wrap_id (x := n + _) (by omega) (by omega), wrap_id (by omega) (by omega)]
        exact (mn2 _ _).2 (by omega) (by omega)) ((mn2 _ _).1) (by omega)
      refine ⟨b, Ev.step (fun _ => sprlaw13_Few.l0.eq_2 ..) (Ev.pos (by omega) (Ev.pos (by omega) (Ev.pos (by omega) ?_))), hf⟩
      rw [wrap_id (x := (i : Int) + 1) (by omega) (by omega), cast_succ]
      exact hb
    · refine ⟨false, Ev.step (fun _ => sprlaw13_Few.l0.eq_2 ..) (Ev.pos (by omega) (Ev.neg (by omega) (Ev.neg (by omega) (Ev.now _)))), fun h => by cases h⟩
theorem Few_ok (l : List S45) : ∃ b, Ev (fun k => sprlaw13_Few.f k l) b ∧ (b = true → l.length ≤ 80) := Few_loop l l 0 0 rfl (by omega) (by omega) (by omega)
theorem first_ok : Ev (fun k => sprlaw13_first.f k) true := Ev.of (fun k => sprlaw13_first.mono k) (k := 60) (by kernel_rfl)
theorem LowerR_ok {s : ByteArray} (h : s.size ≤ 9223372036854775807) : sprref12_Lower.f s = some (Own.low s) := by
  unfold sprref12_Lower.f; rw [if_pos h]
theorem same_dec (a b : ByteArray) : ((Own.low a).toList = (Own.low b).toList) ↔ Own.same a b = true := by
  unfold Own.same; rw [beq_iff_eq]
theorem AllR_loop (l : List S45) (n : ByteArray) (hl : l.length ≤ 1000000) (ho : okL l) (hn : n.size ≤ 9223372036854775807) : ∀ (t : List S45) (i : Nat) (acc : List ByteArray), l.drop i = t → acc.length ≤ i → Ev (fun k => sprref12_All.l0 k l n acc (i : Int)) (acc ++ allOf t n)
  | [], i, acc, ht, ha => by
    have := drop_nil ht
    have e : allOf [] n = [] := rfl
    rw [e, List.append_nil]
    exact Ev.step (fun _ => sprref12_All.l0.eq_2 ..) (Ev.neg (by omega) (Ev.now _))
  | x :: t, i, acc, ht, ha => by
    obtain ⟨a1, a2, a3⟩ := drop_cons ht
    have hx := ho x (List.mem_of_getElem? a2)
    have r1 : rd_T45 l (i : Int) = x := by unfold rd_T45; rw [Int.toNat_natCast, List.getD_eq_getElem?_getD, a2]; rfl
    refine Ev.step (fun _ => sprref12_All.l0.eq_2 ..) (Ev.pos (by omega) (Ev.pos (by omega) ?_))
    rw [r1, wrap_id (by omega) (by omega), cast_succ]
    refine Ev.bnd (LowerR_ok hx.1) (Ev.bnd (LowerR_ok hn) ?_)
    cases hs : Own.same x.f0 n with
    | true =>
      have ih := AllR_loop l n hl ho hn t (i + 1) (acc ++ [x.f1]) a3 (by rw [List.length_append, List.length_singleton]; omega)
      have e : allOf (x :: t) n = x.f1 :: allOf t n := by simp [allOf, hs]
      rw [e]
      rw [List.append_assoc] at ih
      exact Ev.pos ((same_dec _ _).2 hs) (Ev.pos (by omega) ih)
    | false =>
      have ih := AllR_loop l n hl ho hn t (i + 1) acc a3 (by omega)
      have e : allOf (x :: t) n = allOf t n := by simp [allOf, hs]
      rw [e]
      exact Ev.neg (fun h => by rw [(same_dec _ _).1 h] at hs; cases hs) ih
theorem AllR_ok {l : List S45} (hl : l.length ≤ 1000000) (ho : okL l) {n : ByteArray} (hn : n.size ≤ 9223372036854775807) : Ev (fun k => sprref12_All.f k l n) (allOf l n) := AllR_loop l n hl ho hn l 0 [] rfl (Nat.le_refl 0)
theorem hasNameR_loop (l : List ByteArray) (n : ByteArray) (hl : l.length ≤ 1000000) (ho : ∀ s ∈ l, s.size ≤ 9223372036854775807) (hn : n.size ≤ 9223372036854775807) : ∀ (t : List ByteArray) (i : Nat), l.drop i = t → Ev (fun k => sprref12_hasName.l0 k l n (i : Int)) (t.any fun s => Own.same s n)
  | [], i, ht => by
    have := drop_nil ht
    exact Ev.step (fun _ => sprref12_hasName.l0.eq_2 ..) (Ev.neg (by omega) (Ev.now _))
  | x :: t, i, ht => by
    obtain ⟨a1, a2, a3⟩ := drop_cons ht
    have hx := ho x (List.mem_of_getElem? a2)
    refine Ev.step (fun _ => sprref12_hasName.l0.eq_2 ..) (Ev.pos (by omega) (Ev.pos (by omega) ?_))
    rw [rdOf_of a2, wrap_id (by omega) (by omega), cast_succ]
    refine Ev.bnd (LowerR_ok hx) (Ev.bnd (LowerR_ok hn) ?_)
    cases hs : Own.same x n with
    | true =>
      have e : ((x :: t).any fun s => Own.same s n) = true := by simp [hs]
      rw [e]
      exact Ev.pos ((same_dec _ _).2 hs) (Ev.now _)
    | false =>
      have e : ((x :: t).any fun s => Own.same s n) = t.any fun s => Own.same s n := by simp [hs]
      rw [e]
      exact Ev.neg (fun h => by rw [(same_dec _ _).1 h] at hs; cases hs) (hasNameR_loop l n hl ho hn t (i + 1) a3)
theorem takenOf_cons (x : S45) (t : List S45) (b : List ByteArray) : takenOf (x :: t) b = if (b.any fun s => Own.same s x.f0) = true then takenOf t b else x :: takenOf t b := by
  unfold takenOf
  rw [List.filter_cons]
  cases h : b.any fun s => Own.same s x.f0 <;> simp [h]
theorem MergeR_l1 (o c : List S45) (hol : o.length ≤ 1000000) (hcl : c.length ≤ 1000000) (ho : okL o) (hc : okL c) : ∀ (t : List S45) (i : Nat) (acc : List S45), o.drop i = t → acc.length ≤ i → i ≤ o.length →
    Ev (fun k => sprref12_Merge.l1 k o c acc (i : Int)) (acc ++ (t.filter fun x => !decide (0 < (allOf c x.f0).length)) ++ c)
  | [], i, acc, ht, ha, hi => by
    have := drop_nil ht
    rw [List.filter_nil, List.append_nil]
    exact Ev.step (fun _ => sprref12_Merge.l1.eq_2 ..) (Ev.neg (by omega) (Ev.pos (by omega) (Ev.now _)))
  | x :: t, i, acc, ht, ha, hi => by
    obtain ⟨a1, a2, a3⟩ := drop_cons ht
    have hx := ho x (List.mem_of_getElem? a2)
    have r1 : rd_T45 o (i : Int) = x := by unfold rd_T45; rw [Int.toNat_natCast, List.getD_eq_getElem?_getD, a2]; rfl
    refine Ev.step (fun _ => sprref12_Merge.l1.eq_2 ..) (Ev.pos (by omega) (Ev.pos (by omega) ?_))
    rw [r1, wrap_id (by omega) (by omega), cast_succ]
    refine Ev.bind (AllR_ok hcl hc hx.1) ?_
    by_cases h0 : 0 < (allOf c x.f0).length
    · have e : ((x :: t).filter fun x => !decide (0 < (allOf c x.f0).length)) = t.filter fun x => !decide (0 < (allOf c x.f0).length) := by
        rw [List.filter_cons, decide_eq_true h0]; simp
      rw [e]
      exact Ev.neg (by omega) (MergeR_l1 o c hol hcl ho hc t (i + 1) acc a3 (by omega) (by omega))
    · have e : ((x :: t).filter fun x => !decide (0 < (allOf c x.f0).length)) = x :: t.filter fun x => !decide (0 < (allOf c x.f0).length) := by
        rw [List.filter_cons, decide_eq_false h0]; simp
      have ih := MergeR_l1 o c hol hcl ho hc t (i + 1) (acc ++ [x]) a3 (by rw [List.length_append, List.length_singleton]; omega) (by omega)
      rw [e]
      rw [List.append_assoc acc [x], List.singleton_append] at ih
      exact Ev.pos (by omega) (Ev.pos (by omega) ih)
theorem MergeR_l0 (o n : List S45) (b : List ByteArray) (hol : o.length ≤ 1000000) (hnl : n.length ≤ 1000000) (hbl : b.length ≤ 1000000) (ho : okL o) (hn : okL n) (hb : ∀ s ∈ b, s.size ≤ 9223372036854775807) : ∀ (t : List S45) (i : Nat) (acc : List S45), n.drop i = t → acc.length ≤ i → i ≤ n.length → okL acc →
    Ev (fun k => sprref12_Merge.l0 k o n b acc (i : Int)) ((o.filter fun x => !decide (0 < (allOf (acc ++ takenOf t b) x.f0).length)) ++ (acc ++ takenOf t b))
  | [], i, acc, ht, ha, hi, hk => by
    have := drop_nil ht
    have e : takenOf [] b = [] := rfl
    rw [e, List.append_nil]
    refine Ev.step (fun _ => sprref12_Merge.l0.eq_2 ..) (Ev.neg (by omega) ?_)
    exact MergeR_l1 o acc hol (by omega) ho hk o 0 [] rfl (Nat.le_refl 0) (Nat.zero_le _)
  | x :: t, i, acc, ht, ha, hi, hk => by
    obtain ⟨a1, a2, a3⟩ := drop_cons ht
    have hx := hn x (List.mem_of_getElem? a2)
    have r1 : rd_T45 n (i : Int) = x := by unfold rd_T45; rw [Int.toNat_natCast, List.getD_eq_getElem?_getD, a2]; rfl
    refine Ev.step (fun _ => sprref12_Merge.l0.eq_2 ..) (Ev.pos (by omega) (Ev.pos (by omega) ?_))
    rw [r1, wrap_id (by omega) (by omega), cast_succ, takenOf_cons]
    refine Ev.bind (hasNameR_loop b x.f0 hbl hb hx.1 b 0 rfl) ?_
    by_cases hh : (b.any fun s => Own.same s x.f0) = true
    · rw [if_pos hh]
      exact Ev.pos hh (MergeR_l0 o n b hol hnl hbl ho hn hb t (i + 1) acc a3 (by omega) (by omega) hk)
    · rw [if_neg hh]
      have ih := MergeR_l0 o n b hol hnl hbl ho hn hb t (i + 1) (acc ++ [x]) a3 (by rw [List.length_append, List.length_singleton]; omega) (by omega) (hk.append (fun y hy => by rw [List.mem_singleton.1 hy]; exact hx))
      rw [List.append_assoc acc [x], List.singleton_append] at ih
      exact Ev.neg hh (Ev.pos (by omega) ih)
theorem MergeR_ok {o n : List S45} {b : List ByteArray} (hol : o.length ≤ 1000000) (hnl : n.length ≤ 1000000) (hbl : b.length ≤ 1000000) (ho : okL o) (hn : okL n) (hb : ∀ s ∈ b, s.size ≤ 9223372036854775807) : Ev (fun k => sprref12_Merge.f k o n b) (mergeOf o n b) :=
  MergeR_l0 o n b hol hnl hbl ho hn hb n 0 [] rfl (Nat.le_refl 0) (Nat.zero_le _) (fun x hx => by cases hx)
theorem texts_ok (l : List ByteArray) : ∃ b, Ev (fun k => sprlaw13_texts.f k l) b ∧ (b = true → l.length ≤ 80) := texts_loop l l 0 0 rfl (by omega) (by omega) (by omega)
where
  texts_loop (l : List ByteArray) : ∀ (t : List ByteArray) (i : Nat) (n : Int), l.drop i = t → 0 ≤ n → n ≤ 80000 → i ≤ 80 → ∃ b, Ev (fun k => sprlaw13_texts.l0 k l n (i : Int)) b ∧ (b = true → l.length ≤ 80)
  | [], i, n, h, h0, h1, hi => by
    have := drop_nil h
    by_cases hl : l.length ≤ 80
    · exact ⟨_, Ev.step (fun _ => sprlaw13_texts.l0.eq_2 ..) (Ev.neg (by omega) (Ev.pos (by omega) (Ev.now _))), fun _ => hl⟩
    · exact ⟨false, Ev.step (fun _ => sprlaw13_texts.l0.eq_2 ..) (Ev.neg (by omega) (Ev.neg (by omega) (Ev.now _))), fun h => by cases h⟩
  | x :: t, i, n, h, h0, h1, hi => by
    obtain ⟨a1, a2, a3⟩ := drop_cons h
    by_cases h80 : i < 80
    · have mn2 : ∀ a b : Int, mn a b ≤ b ∧ (0 ≤ a → 0 ≤ b → 0 ≤ mn a b) := by intro a b; unfold mn; split <;> omega
      obtain ⟨b, hb, hf⟩ := texts_loop l t (i + 1) (mn (wrap64 (n + (mn ((rdOf ByteArray.empty l (i : Int)).size : Int) 20000))) 80000) a3 (by
        have q1 := mn2 ((rdOf ByteArray.empty l (i : Int)).size : Int) 20000
        have q3 := q1.2 (by omega) (by omega)
        rw [wrap_id (by omega) (by omega)]
        exact (mn2 _ _).2 (by omega) (by omega)) ((mn2 _ _).1) (by omega)
      refine ⟨b, Ev.step (fun _ => sprlaw13_texts.l0.eq_2 ..) (Ev.pos (by omega) (Ev.pos (by omega) (Ev.pos (by omega) ?_))), hf⟩
      rw [wrap_id (x := (i : Int) + 1) (by omega) (by omega), cast_succ]
      exact hb
    · refine ⟨false, Ev.step (fun _ => sprlaw13_texts.l0.eq_2 ..) (Ev.pos (by omega) (Ev.neg (by omega) (Ev.neg (by omega) (Ev.now _)))), fun h => by cases h⟩
theorem Merge_ok {o n : List S45} (ho : okL o) (hn : okL n) (hl : o.length + n.length ≤ 1000000) {b : List ByteArray} (hb : ∀ s ∈ b, s.size ≤ 9223372036854775807) : head_Merge.f o n b = some (mergeOf o n b) := by
  unfold head_Merge.f
  rw [if_pos ⟨by omega, ho.all, hn.all, List.all_eq_true.2 fun s hs => okS_of (hb s hs)⟩]
theorem taken_len (n : List S45) (b : List ByteArray) : (takenOf n b).length ≤ n.length := List.length_filter_le _ _
theorem merge_len (o n : List S45) (b : List ByteArray) : (mergeOf o n b).length ≤ o.length + n.length := by
  unfold mergeOf
  have h1 := List.length_filter_le (fun x => !decide (0 < (allOf (takenOf n b) x.f0).length)) o
  have h2 := taken_len n b
  rw [List.length_append]; omega
theorem merge_okL {o n : List S45} (ho : okL o) (hn : okL n) (b : List ByteArray) : okL (mergeOf o n b) := (ho.filter _).append (hn.filter _)
def blank (c : UInt8) : Bool := ([32, 9] : List UInt8).contains c
/-- Blanks and tabs at both ends away. -/
def tr (l : List UInt8) : List UInt8 := Lib.trimS l [32, 9]
def rdw (p : UInt8 → Bool) (l : List UInt8) : List UInt8 := (l.reverse.dropWhile p).reverse
theorem rdw_cons (p : UInt8 → Bool) (x : UInt8) (t : List UInt8) : rdw p (x :: t) = if rdw p t = [] then (if p x = true then [] else [x]) else x :: rdw p t := by
  unfold rdw
  rw [List.reverse_cons, List.dropWhile_append]
  by_cases h : (t.reverse.dropWhile p) = []
  · rw [h]
    by_cases hx : p x = true <;> simp [hx, List.dropWhile]
  · have h' : ¬ (t.reverse.dropWhile p).reverse = [] := fun e => h (List.reverse_eq_nil_iff.1 e)
    rw [if_neg h', if_neg (by simpa using h)]
    simp
theorem rdw_comm (p : UInt8 → Bool) : ∀ l : List UInt8, (rdw p l).dropWhile p = rdw p (l.dropWhile p)
  | [] => rfl
  | x :: t => by
    have ih := rdw_comm p t
    by_cases hx : p x = true
    · rw [List.dropWhile_cons, if_pos hx, ← ih, rdw_cons]
      by_cases h : rdw p t = []
      · rw [if_pos h, if_pos hx, h]
      · rw [if_neg h, List.dropWhile_cons, if_pos hx]
    · rw [List.dropWhile_cons, if_neg hx, rdw_cons]
      by_cases h : rdw p t = []
      · rw [if_pos h, if_neg hx, List.dropWhile_cons, if_neg hx]
      · rw [if_neg h, List.dropWhile_cons, if_neg hx]
theorem tr_eq (l : List UInt8) : tr l = rdw blank (l.dropWhile blank) := by
  rw [← rdw_comm]; rfl
theorem tr_nil : tr [] = [] := rfl
theorem length_dropWhile_le (p : UInt8 → Bool) : ∀ l : List UInt8, (l.dropWhile p).length ≤ l.length
  | [] => Nat.le_refl _
  | x :: t => by
    rw [List.dropWhile_cons]
    have := length_dropWhile_le p t
    split <;> simp only [List.length_cons] <;> omega
theorem tr_len (l : List UInt8) : (tr l).length ≤ l.length := by
  rw [tr_eq]
  unfold rdw
  have h1 := length_dropWhile_le blank (l.dropWhile blank).reverse
  have h2 := length_dropWhile_le blank l
  simp only [List.length_reverse] at h1 ⊢
  omega
/-- Nothing blank at the ends: it stays. -/
theorem dropWhile_idem (p : UInt8 → Bool) : ∀ l : List UInt8, (l.dropWhile p).dropWhile p = l.dropWhile p
  | [] => rfl
  | x :: t => by
    by_cases hx : p x = true
    · rw [List.dropWhile_cons, if_pos hx]; exact dropWhile_idem p t
    · rw [List.dropWhile_cons, if_neg hx, List.dropWhile_cons, if_neg hx]
theorem tr_tr (l : List UInt8) : tr (tr l) = tr l := by
  have e : ∀ m, tr m = (rdw blank m).dropWhile blank := fun m => by rw [tr_eq, rdw_comm]
  have r2 : ∀ m, rdw blank (rdw blank m) = rdw blank m := fun m => by unfold rdw; rw [List.reverse_reverse, dropWhile_idem]
  rw [e (tr l), tr_eq l, r2, rdw_comm, dropWhile_idem]
/-- Where the first piece ends, from a state on. -/
def pc : Bool → List UInt8 → Nat
  | _, [] => 0
  | q, c :: t =>
    if c = 34 then 1 + pc (!q) t
    else if q = true ∧ c = 92 then (match t with | [] => 1 | _ :: u => 2 + pc q u)
    else if c = 44 ∧ q = false then 0
    else 1 + pc q t
theorem pc_cons (q : Bool) (c : UInt8) (t : List UInt8) : pc q (c :: t) = if c = 34 then 1 + pc (!q) t else if q = true ∧ c = 92 then (match t with | [] => 1 | _ :: u => 2 + pc q u) else if c = 44 ∧ q = false then 0 else 1 + pc q t := by rw [pc.eq_def]
theorem pc_le : ∀ (l : List UInt8) (q : Bool), pc q l ≤ l.length
  | [], q => by simp [pc]
  | [c], q => by
    have : ∀ q, pc q ([] : List UInt8) = 0 := fun _ => rfl
    unfold pc
    (repeat' split) <;> simp_all [pc]
  | c :: d :: u, q => by
    have h1 := pc_le (d :: u) (!q)
    have h2 := pc_le (d :: u) q
    have h3 := pc_le u q
    unfold pc
    simp only [List.length_cons] at h1 h2 ⊢
    split
    · omega
    · split
      · omega
      · split <;> omega
def one (l : List UInt8) : List (List UInt8) := if tr l = [] then [] else [tr l]
/-- The pieces of one value: what has been gone through since the last cut, the state, the rest. -/
def rf : List UInt8 → Bool → List UInt8 → List (List UInt8)
  | cur, _, [] => one cur
  | cur, q, c :: t =>
    if c = 34 then rf (cur ++ [c]) (!q) t
    else if q = true ∧ c = 92 then (match t with | [] => one (cur ++ [c]) | d :: u => rf (cur ++ [c, d]) q u)
    else if c = 44 ∧ q = false then one cur ++ rf [] false t
    else rf (cur ++ [c]) q t
theorem rf_cons (cur : List UInt8) (q : Bool) (c : UInt8) (t : List UInt8) : rf cur q (c :: t) = if c = 34 then rf (cur ++ [c]) (!q) t else if q = true ∧ c = 92 then (match t with | [] => one (cur ++ [c]) | d :: u => rf (cur ++ [c, d]) q u) else if c = 44 ∧ q = false then one cur ++ rf [] false t else rf (cur ++ [c]) q t := by rw [rf.eq_def]
theorem rf_plain (cur : List UInt8) (q : Bool) (c : UInt8) (t : List UInt8) (h : ¬ (q = true ∧ c = 92)) : rf cur q (c :: t) = if c = 34 then rf (cur ++ [c]) (!q) t else if c = 44 ∧ q = false then one cur ++ rf [] false t else rf (cur ++ [c]) q t := by rw [rf_cons, if_neg h]
def pieces (l : List UInt8) : List (List UInt8) := rf [] false l
theorem rf_pc : ∀ (l cur : List UInt8) (q : Bool), rf cur q l = one (cur ++ l.take (pc q l)) ++ (if pc q l < l.length then pieces (l.drop (pc q l + 1)) else [])
  | [], cur, q => by simp [rf, pc]
  | [c], cur, q => by
    have h0 : ∀ q, pc q ([] : List UInt8) = 0 := fun _ => rfl
    have h1 : ∀ cur q, rf cur q [] = one cur := fun _ _ => rfl
    unfold rf pc
    by_cases e1 : c = 34
    · simp [e1, h0, h1]
    · by_cases e2 : q = true ∧ c = 92
      · simp [e1, e2]
      · by_cases e3 : c = 44 ∧ q = false
        · simp [e3, pieces, h1]
        · rw [if_neg e1, if_neg e2, if_neg e3, if_neg e1, if_neg e2, if_neg e3, h0, h1]
          simp
  | c :: d :: u, cur, q => by
    have i1 := rf_pc (d :: u) (cur ++ [c]) (!q)
    have i2 := rf_pc (d :: u) (cur ++ [c]) q
    have i3 := rf_pc u (cur ++ [c, d]) q
    rw [rf, pc]
    by_cases e1 : c = 34
    · rw [if_pos e1, if_pos e1, i1]
      rw [show (1 + pc (!q) (d :: u)) = pc (!q) (d :: u) + 1 from by omega, List.take_succ_cons, List.drop_succ_cons]
      simp only [List.length_cons, List.append_assoc, List.cons_append, List.nil_append]
      congr 1
      by_cases hlt : pc (!q) (d :: u) < u.length + 1
      · rw [if_pos hlt, if_pos (by omega)]; simp only [List.drop_succ_cons]
      · rw [if_neg hlt, if_neg (by omega)]
    · rw [if_neg e1, if_neg e1]
      by_cases e2 : q = true ∧ c = 92
      · rw [if_pos e2, if_pos e2]
        show rf (cur ++ [c, d]) q u = one (cur ++ (c :: d :: u).take (2 + pc q u)) ++ (if 2 + pc q u < (c :: d :: u).length then pieces ((c :: d :: u).drop (2 + pc q u + 1)) else [])
        rw [i3, show 2 + pc q u = pc q u + 1 + 1 from by omega, List.take_succ_cons, List.take_succ_cons, List.drop_succ_cons, List.drop_succ_cons]
        simp only [List.length_cons, List.append_assoc, List.cons_append, List.nil_append]
        congr 1
        by_cases hlt : pc q u < u.length
        · rw [if_pos hlt, if_pos (by omega)]
        · rw [if_neg hlt, if_neg (by omega)]
      · rw [if_neg e2, if_neg e2]
        by_cases e3 : c = 44 ∧ q = false
        · rw [if_pos e3, if_pos e3]
          simp [pieces]
        · rw [if_neg e3, if_neg e3, i2]
          rw [show (1 + pc q (d :: u)) = pc q (d :: u) + 1 from by omega, List.take_succ_cons, List.drop_succ_cons]
          simp only [List.length_cons, List.append_assoc, List.cons_append, List.nil_append]
          congr 1
          by_cases hlt : pc q (d :: u) < u.length + 1
          · rw [if_pos hlt, if_pos (by omega)]; simp only [List.drop_succ_cons]
          · rw [if_neg hlt, if_neg (by omega)]
theorem pieces_nil : pieces [] = [] := by simp [pieces, rf, one, tr_nil]
theorem pieces_pc (l : List UInt8) : pieces l = one (l.take (pc false l)) ++ (if pc false l < l.length then pieces (l.drop (pc false l + 1)) else []) := by
  have := rf_pc l [] false
  rw [List.nil_append] at this
  exact this
/-- The same where the rest is cut as the program cuts it. -/
theorem pieces_cut (l : List UInt8) : pieces l = one (l.take (pc false l)) ++ pieces (l.drop (min (pc false l + 1) l.length)) := by
  have h := pc_le l false
  rw [pieces_pc l]
  by_cases hlt : pc false l < l.length
  · rw [if_pos hlt, Nat.min_eq_left (by omega)]
  · rw [if_neg hlt, Nat.min_eq_right (by omega), List.drop_length, pieces_nil]
theorem one_len (l : List UInt8) : (one l).length ≤ 1 := by unfold one; split <;> simp
theorem pieces_len : ∀ (n : Nat) (l : List UInt8), l.length ≤ n → (pieces l).length ≤ l.length + 1
  | 0, l, h => by
    have : l = [] := by cases l <;> simp_all
    subst this; rw [pieces_nil]; simp
  | n + 1, l, h => by
    rw [pieces_pc l]
    have h1 := one_len (l.take (pc false l))
    by_cases hlt : pc false l < l.length
    · rw [if_pos hlt, List.length_append]
      have h2 := pieces_len n (l.drop (pc false l + 1)) (by rw [List.length_drop]; omega)
      rw [List.length_drop] at h2
      omega
    · rw [if_neg hlt, List.length_append]
      simp only [List.length_nil]; omega
/-- The pieces of several values. -/
def splits (v : List ByteArray) : List (List UInt8) := v.flatMap fun s => pieces (B s)
theorem Trim_ok (s : ByteArray) (h : s.size ≤ 9223372036854775807) : head_Trim.f s = some (mk (tr (B s))) := by
  unfold head_Trim.f strings_Trim.f
  rw [if_pos h, if_pos rfl]
  rfl
theorem piece_loop (s : ByteArray) (hs : s.size ≤ 1000000000) : ∀ (n : Nat) (l : List UInt8) (i : Nat) (q : Bool), l.length ≤ n → (B s).drop i = l → i ≤ s.size →
    Ev (fun k => head_piece.l0 k s q (i : Int)) ((i + pc q l : Nat) : Int)
  | n, [], i, q, hn, hl, hi => by
    have h1 := end_drop hl
    have e : i = s.size := by omega
    refine Ev.step (fun _ => head_piece.l0.eq_2 ..) (Ev.neg (by omega) (Ev.konst ?_))
    simp [pc, e]
  | 0, c :: t, i, q, hn, hl, hi => by simp at hn
  | n + 1, c :: t, i, q, hn, hl, hi => by
    obtain ⟨h1, h2, h3⟩ := bt_drop hl
    simp only [List.length_cons] at hn
    have w1 : wrap64 ((i : Int) + 1) = ((i + 1 : Nat) : Int) := by rw [wrap_id (by omega) (by omega)]; omega
    have w2 : wrap64 (((i + 1 : Nat) : Int) + 1) = ((i + 2 : Nat) : Int) := by rw [wrap_id (by omega) (by omega)]; omega
    refine Ev.step (fun _ => head_piece.l0.eq_2 ..) (Ev.pos (by omega) (Ev.pos (by omega) ?_))
    rw [h1, w1, pc_cons]
    by_cases e1 : c = 34
    · rw [if_pos e1]
      refine Ev.pos ((u8_eq c 34 (by omega)).2 e1) ?_
      have := piece_loop s hs n t (i + 1) (!q) (by omega) h3 (by omega)
      rw [show i + (1 + pc (!q) t) = i + 1 + pc (!q) t from by omega]
      exact this
    · rw [if_neg e1]
      refine Ev.neg (fun h => e1 ((u8_eq c 34 (by omega)).1 h)) ?_
      have tail : ∀ b, ¬ b = true → (¬ (q = true ∧ c = 92)) → Ev (fun k => head_piece.j1 k s q (i : Int) b) ((i + (if c = 44 ∧ q = false then 0 else 1 + pc q t) : Nat) : Int) := by
        intro b hb hq
        refine Ev.step (fun _ => head_piece.j1.eq_2 ..) (Ev.neg hb (Ev.pos (by omega) (Ev.pos (by omega) ?_)))
        rw [h1, w1]
        by_cases e3 : c = 44
        · refine Ev.pos ((u8_eq c 44 (by omega)).2 e3) ?_
          cases q with
          | true =>
            rw [if_neg (by simp)]
            refine Ev.pos rfl ?_
            have := piece_loop s hs n t (i + 1) true (by omega) h3 (by omega)
            rw [show i + (1 + pc true t) = i + 1 + pc true t from by omega]
            exact this
          | false =>
            rw [if_pos ⟨e3, rfl⟩]
            exact Ev.neg (by simp) (Ev.now _)
        · rw [if_neg (fun h => e3 h.1)]
          refine Ev.neg (fun h => e3 ((u8_eq c 44 (by omega)).1 h)) ?_
          have := piece_loop s hs n t (i + 1) q (by omega) h3 (by omega)
          rw [show i + (1 + pc q t) = i + 1 + pc q t from by omega]
          exact this
      cases q with
      | false =>
        rw [if_neg (by simp)]
        exact Ev.neg (by simp) (tail false (by simp) (by simp))
      | true =>
        refine Ev.pos rfl ?_
        by_cases e2 : c = 92
        · rw [if_pos ⟨rfl, e2⟩, show ((c.toNat : Int) == 92) = true from by simpa using (u8_eq c 92 (by omega)).2 e2]
          refine Ev.step (fun _ => head_piece.j1.eq_2 ..) (Ev.pos rfl ?_)
          rw [w1, w2]
          cases t with
          | nil =>
            have h4 := end_drop h3
            refine Ev.step (fun _ => head_piece.l0.eq_2 ..) (Ev.neg (by omega) (Ev.konst ?_))
            simp; omega
          | cons d u =>
            obtain ⟨_, h5, h6⟩ := bt_drop h3
            simp only [List.length_cons] at hn
            have := piece_loop s hs n u (i + 2) true (by omega) h6 (by omega)
            show Ev _ ((i + (2 + pc true u) : Nat) : Int)
            rw [show i + (2 + pc true u) = i + 2 + pc true u from by omega]
            exact this
        · rw [if_neg (fun h => e2 h.2), show ((c.toNat : Int) == 92) = false from by simpa using fun h => e2 ((u8_eq c 92 (by omega)).1 h)]
          exact tail false (by simp) (fun h => e2 h.2)
theorem piece_ok (s : ByteArray) (hs : s.size ≤ 1000000000) : Ev (fun k => head_piece.f k s) ((pc false (B s) : Nat) : Int) := by
  unfold head_piece.f
  have := piece_loop s hs (B s).length (B s) 0 false (Nat.le_refl _) rfl (by omega)
  rw [Nat.zero_add] at this
  exact this
theorem mn_nat (a b : Nat) : mn (a : Int) (b : Int) = ((min a b : Nat) : Int) := by
  unfold mn; split <;> omega
/-- One value is gone through; what follows is told. -/
theorem split_one (v : List ByteArray) (m : Int) (j : Int) {r : List ByteArray} (bd : Nat) (hbd : bd ≤ 1000000000) : ∀ (n : Nat) (s : ByteArray) (acc : List ByteArray), s.size ≤ n → s.size ≤ 1000000000 → acc.length + s.size + 1 ≤ bd →
    Ev (fun k => head_Split.l0 k (acc ++ (pieces (B s)).map mk) v m (wrap64 (j + 1))) r → Ev (fun k => head_Split.l1 k acc s v m j) r
  | n, s, acc, hn, hs, ha, hr => by
    refine Ev.step (fun _ => head_Split.l1.eq_2 ..) ?_
    by_cases he : B s = []
    · rw [he, pieces_nil] at hr
      simp only [List.map_nil, List.append_nil] at hr
      exact Ev.pos (by rw [toList_B, he]) hr
    · have hne : ¬ s.toList = [] := by rw [toList_B]; exact he
      have hp := pc_le (B s) false
      rw [← size_B] at hp
      have hpos : 0 < s.size := by
        rw [size_B]
        cases h : B s with
        | nil => exact absurd h he
        | cons _ _ => simp
      have w1 : wrap64 (((pc false (B s) : Nat) : Int) + 1) = ((pc false (B s) + 1 : Nat) : Int) := by rw [wrap_id (by omega) (by omega)]; omega
      have e1 : ((mn ((pc false (B s) + 1 : Nat) : Int) (s.size : Int)) : Int).toNat = min (pc false (B s) + 1) s.size := by rw [mn_nat]; exact Int.toNat_natCast _
      have h0 : 0 ≤ mn ((pc false (B s) + 1 : Nat) : Int) (s.size : Int) := by rw [mn_nat]; omega
      have h1 : mn ((pc false (B s) + 1 : Nat) : Int) (s.size : Int) ≤ (s.size : Int) := by rw [mn_nat]; omega
      have cut := pieces_cut (B s)
      have eT : head_Trim.f (s.extract 0 ((pc false (B s) : Nat) : Int).toNat) = some (mk (tr ((B s).take (pc false (B s))))) := by
        rw [Trim_ok _ (by rw [size_B, B_to]; have := List.length_take_le (pc false (B s)) (B s); simp only [Int.toNat_natCast] at *; rw [← size_B] at *; omega), B_to, Int.toNat_natCast]
      have hrest : B (s.extract (min (pc false (B s) + 1) s.size) s.size) = (B s).drop (min (pc false (B s) + 1) (B s).length) := by rw [B_from, ← size_B]
      have hsz : (s.extract (min (pc false (B s) + 1) s.size) s.size).size = s.size - min (pc false (B s) + 1) s.size := by rw [size_B, B_from, List.length_drop, ← size_B]
      refine Ev.neg hne (Ev.bind (piece_ok s hs) (Ev.pos (by omega) (Ev.pos (by omega) (Ev.bnd eT ?_))))
      rw [w1, e1]
      obtain ⟨n, rfl⟩ : ∃ m, n = m + 1 := ⟨n - 1, by omega⟩
      by_cases hz : tr ((B s).take (pc false (B s))) = []
      · refine Ev.pos (by rw [toList_B, B_mk, hz]) (Ev.pos h0 (Ev.pos h1 ?_))
        refine split_one v m j bd hbd n _ acc (by rw [hsz]; omega) (by rw [hsz]; omega) (by rw [hsz]; omega) ?_
        rw [hrest]
        rw [cut, one, if_pos hz, List.nil_append] at hr
        exact hr
      · refine Ev.neg (by rw [toList_B, B_mk]; exact hz) (Ev.pos (by omega) (Ev.pos h0 (Ev.pos h1 ?_)))
        refine split_one v m j bd hbd n _ _ (by rw [hsz]; omega) (by rw [hsz]; omega) (by rw [hsz]; simp only [List.length_append, List.length_cons, List.length_nil]; omega) ?_
        rw [hrest]
        rw [cut, one, if_neg hz] at hr
        simpa using hr
theorem split_loop (v : List ByteArray) (hv : v.length ≤ 1000000) (hb : ∀ s ∈ v, s.size ≤ 1100000) : ∀ (l : List ByteArray) (i : Nat) (acc : List ByteArray), v.drop i = l → acc.length ≤ 1100001 * i → i + l.length ≤ 400 →
    Ev (fun k => head_Split.l0 k acc v (v.length : Int) (i : Int)) (acc ++ (splits l).map mk)
  | [], i, acc, hl, ha, hi => by
    have := drop_nil hl
    refine Ev.step (fun _ => head_Split.l0.eq_2 ..) (Ev.neg (by omega) (Ev.konst ?_))
    simp [splits]
  | s :: t, i, acc, hl, ha, hi => by
    obtain ⟨h1, h2, h3⟩ := drop_cons hl
    have hs := hb s (List.mem_of_getElem? h2)
    have hp := pieces_len (B s).length (B s) (Nat.le_refl _)
    rw [← size_B] at hp
    simp only [List.length_cons] at hi
    refine Ev.step (fun _ => head_Split.l0.eq_2 ..) (Ev.pos (by omega) (Ev.pos (by omega) (Ev.pos (by omega) ?_)))
    rw [rdOf_of h2]
    refine split_one v _ _ 1000000000 (Nat.le_refl _) s.size s acc (Nat.le_refl _) (by omega) (by omega) ?_
    rw [wrap_id (by omega) (by omega), cast_succ]
    have hl' : (acc ++ (pieces (B s)).map mk).length ≤ 1100001 * (i + 1) := by rw [List.length_append, List.length_map]; omega
    have := split_loop v hv hb t (i + 1) _ h3 hl' (by omega)
    simpa [splits] using this
theorem rdw_snoc (p : UInt8 → Bool) (l : List UInt8) (c : UInt8) : rdw p (l ++ [c]) = if p c = true then rdw p l else l ++ [c] := by
  unfold rdw
  rw [List.reverse_append]
  by_cases h : p c = true
  · simp [h]
  · simp [h]
theorem blank_iff (c : UInt8) : blank c = true ↔ ((c.toNat : Int) = 32 ∨ (c.toNat : Int) = 9) := by
  rw [show (32 : Int) = ((32 : Nat) : Int) from rfl, show (9 : Int) = ((9 : Nat) : Int) from rfl, u8_eq c 32 (by omega), u8_eq c 9 (by omega)]
  unfold blank
  simp
theorem TrimR_l1 : ∀ (n : Nat) (s : ByteArray), s.size ≤ n → s.size ≤ 1000000000 → Ev (fun k => sprref12_Trim.l1 k s) (mk (rdw blank (B s)))
  | n, s, hn, hs => by
    refine Ev.step (fun _ => sprref12_Trim.l1.eq_2 ..) ?_
    rcases List.eq_nil_or_concat (B s) with he | ⟨l, c, he⟩
    · have h0 : s.size = 0 := by rw [size_B, he]; rfl
      refine Ev.neg (by omega) (Ev.konst ?_)
      rw [← mk_B s, he]; rfl
    · have hsz : s.size = l.length + 1 := by rw [size_B, he]; simp
      have w1 : wrap64 ((s.size : Int) - 1) = ((l.length : Nat) : Int) := by rw [wrap_id (by omega) (by omega)]; omega
      have hc : bt s ((l.length : Nat) : Int) = (c.toNat : Int) := bt_of (by rw [he]; simp)
      have hin : B (s.extract 0 l.length) = l := by rw [B_to, he]; simp
      have hl : (s.extract 0 l.length).size = l.length := by rw [size_B, hin]
      rw [w1, hc, he, List.concat_eq_append, rdw_snoc, Int.toNat_natCast]
      refine Ev.pos (by omega) (Ev.pos (by omega) (Ev.pos (by omega) ?_))
      obtain ⟨n, rfl⟩ : ∃ m, n = m + 1 := ⟨n - 1, by omega⟩
      by_cases h1 : (c.toNat : Int) = 32
      · rw [if_pos ((blank_iff c).2 (.inl h1))]
        refine Ev.pos h1 (Ev.pos (by omega) ?_)
        have := TrimR_l1 n (s.extract 0 l.length) (by omega) (by omega)
        rw [hin] at this; exact this
      · by_cases h2 : (c.toNat : Int) = 9
        · rw [if_pos ((blank_iff c).2 (.inr h2))]
          refine Ev.neg h1 (Ev.pos h2 (Ev.pos (by omega) ?_))
          have := TrimR_l1 n (s.extract 0 l.length) (by omega) (by omega)
          rw [hin] at this; exact this
        · rw [if_neg (fun h => ((blank_iff c).1 h).elim h1 h2)]
          refine Ev.neg h1 (Ev.neg h2 (Ev.konst ?_))
          rw [← mk_B s, he, List.concat_eq_append]
theorem TrimR_l0 : ∀ (n : Nat) (s : ByteArray), s.size ≤ n → s.size ≤ 1000000000 → Ev (fun k => sprref12_Trim.l0 k s) (mk (tr (B s)))
  | n, s, hn, hs => by
    refine Ev.step (fun _ => sprref12_Trim.l0.eq_2 ..) ?_
    rw [tr_eq]
    have fin : ∀ l, l = B s → Ev (fun k => sprref12_Trim.j1 k s) (mk (rdw blank l)) := fun l e => by
      subst e
      exact Ev.step (fun _ => sprref12_Trim.j1.eq_2 ..) (TrimR_l1 s.size s (Nat.le_refl _) hs)
    cases he : B s with
    | nil =>
      have h0 : s.size = 0 := by rw [size_B, he]; rfl
      exact Ev.neg (by omega) (fin _ (by rw [he]; rfl))
    | cons c t =>
      have hsz : s.size = t.length + 1 := by rw [size_B, he]; simp
      have hc : bt s 0 = (c.toNat : Int) := bt_of (i := 0) (by rw [he]; rfl)
      have hin : B (s.extract 1 s.size) = t := by rw [B_from, he]; rfl
      have hl : (s.extract 1 s.size).size = t.length := by rw [size_B, hin]
      rw [hc, List.dropWhile_cons]
      refine Ev.pos (by omega) (Ev.pos (by omega) ?_)
      obtain ⟨n, rfl⟩ : ∃ m, n = m + 1 := ⟨n - 1, by omega⟩
      by_cases h1 : (c.toNat : Int) = 32
      · rw [if_pos ((blank_iff c).2 (.inl h1))]
        refine Ev.pos h1 (Ev.pos (by omega) ?_)
        have := TrimR_l0 n (s.extract 1 s.size) (by omega) (by omega)
        rw [hin, tr_eq] at this; exact this
      · by_cases h2 : (c.toNat : Int) = 9
        · rw [if_pos ((blank_iff c).2 (.inr h2))]
          refine Ev.neg h1 (Ev.pos h2 (Ev.pos (by omega) ?_))
          have := TrimR_l0 n (s.extract 1 s.size) (by omega) (by omega)
          rw [hin, tr_eq] at this; exact this
        · rw [if_neg (fun h => ((blank_iff c).1 h).elim h1 h2)]
          exact Ev.neg h1 (Ev.neg h2 (fin _ he.symm))
theorem TrimR_ok (s : ByteArray) (hs : s.size ≤ 1000000000) : Ev (fun k => sprref12_Trim.f k s) (mk (tr (B s))) := by
  unfold sprref12_Trim.f
  exact TrimR_l0 s.size s (Nat.le_refl _) hs
theorem pieceR_ok (acc : List ByteArray) (s : ByteArray) (hs : s.size ≤ 1000000000) (ha : acc.length ≤ 2000000000) : Ev (fun k => sprref12_piece.f k acc s) (acc ++ (one (B s)).map mk) := by
  unfold sprref12_piece.f
  refine Ev.bind (TrimR_ok s hs) ?_
  by_cases hz : tr (B s) = []
  · rw [one, if_pos hz]
    exact Ev.pos (by rw [toList_B, B_mk, hz]) (Ev.konst (by simp))
  · rw [one, if_neg hz]
    exact Ev.neg (by rw [toList_B, B_mk]; exact hz) (Ev.pos (by omega) (Ev.konst (by simp)))
theorem take_more {l : List UInt8} {f i : Nat} {cur : List UInt8} {c : UInt8} {t : List UInt8} (h : (l.drop f).take (i - f) = cur) (hd : l.drop i = c :: t) (hf : f ≤ i) : (l.drop f).take (i + 1 - f) = cur ++ [c] := by
  obtain ⟨_, h2, _⟩ := drop_cons hd
  rw [show i + 1 - f = (i - f) + 1 from by omega, List.take_add_one, h, List.getElem?_drop, show f + (i - f) = i from by omega, h2]
  rfl
theorem piecesR_loop (s : ByteArray) (hs : s.size ≤ 1100000) : ∀ (n : Nat) (l cur : List UInt8) (acc : List ByteArray) (f i : Nat) (q : Bool), l.length ≤ n → (B s).drop i = l → f ≤ i → i ≤ s.size → ((B s).drop f).take (i - f) = cur → acc.length ≤ 1000 + i →
    Ev (fun k => sprref12_pieces.l0 k s acc (f : Int) q (i : Int)) (acc ++ (rf cur q l).map mk)
  | n, [], cur, acc, f, i, q, hn, hl, hf, hi, hc, ha => by
    have h1 := end_drop hl
    have e : i = s.size := by omega
    have hB : B (s.extract f s.size) = cur := by
      rw [B_from, ← hc]
      exact (List.take_of_length_le (by rw [List.length_drop, ← size_B]; omega)).symm
    have hsz : (s.extract f s.size).size ≤ 1100000 := by rw [size_B, B_from, List.length_drop, ← size_B]; omega
    refine Ev.step (fun _ => sprref12_pieces.l0.eq_2 ..) (Ev.neg (by omega) (Ev.pos (by omega) (Ev.pos (by omega) ?_)))
    rw [Int.toNat_natCast]
    refine Ev.bind (pieceR_ok acc _ (by omega) (by omega)) (Ev.konst ?_)
    rw [hB]; rfl
  | 0, c :: t, cur, acc, f, i, q, hn, hl, hf, hi, hc, ha => by simp at hn
  | n + 1, c :: t, cur, acc, f, i, q, hn, hl, hf, hi, hc, ha => by
    obtain ⟨h1, h2, h3⟩ := bt_drop hl
    simp only [List.length_cons] at hn
    have w1 : wrap64 ((i : Int) + 1) = ((i + 1 : Nat) : Int) := by rw [wrap_id (by omega) (by omega)]; omega
    have w2 : wrap64 (((i + 1 : Nat) : Int) + 1) = ((i + 2 : Nat) : Int) := by rw [wrap_id (by omega) (by omega)]; omega
    have hm := take_more hc hl hf
    refine Ev.step (fun _ => sprref12_pieces.l0.eq_2 ..) (Ev.pos (by omega) ?_)
    rw [h1]
    have tail : ∀ b, ¬ b = true → ¬ (q = true ∧ c = 92) → Ev (fun k => sprref12_pieces.j1 k s acc (f : Int) q (i : Int) b) (acc ++ (if c = 34 then rf (cur ++ [c]) (!q) t else if c = 44 ∧ q = false then one cur ++ rf [] false t else rf (cur ++ [c]) q t).map mk) := by
      intro b hb hq
      refine Ev.step (fun _ => sprref12_pieces.j1.eq_2 ..) (Ev.neg hb (Ev.pos (by omega) (Ev.pos (by omega) ?_)))
      rw [h1, w1]
      by_cases e1 : c = 34
      · rw [if_pos e1]
        exact Ev.pos ((u8_eq c 34 (by omega)).2 e1) (piecesR_loop s hs n t _ acc f (i + 1) (!q) (by omega) h3 (by omega) (by omega) hm (by omega))
      · rw [if_neg e1]
        refine Ev.neg (fun h => e1 ((u8_eq c 34 (by omega)).1 h)) ?_
        by_cases e3 : c = 44
        · refine Ev.pos ((u8_eq c 44 (by omega)).2 e3) ?_
          cases q with
          | true =>
            rw [if_neg (by simp)]
            exact Ev.pos rfl (piecesR_loop s hs n t _ acc f (i + 1) true (by omega) h3 (by omega) (by omega) hm (by omega))
          | false =>
            rw [if_pos ⟨e3, rfl⟩]
            have hB : B (s.extract f i) = cur := by rw [B_extract, hc]
            have hsz : (s.extract f i).size ≤ 1100000 := by rw [size_B, B_extract]; have := List.length_take_le (i - f) ((B s).drop f); omega
            refine Ev.neg (by simp) (Ev.pos (by omega) (Ev.pos (by omega) (Ev.pos (by omega) ?_)))
            rw [Int.toNat_natCast, Int.toNat_natCast]
            refine Ev.bind (pieceR_ok acc _ (by omega) (by omega)) ?_
            rw [hB]
            have ho := one_len cur
            have := piecesR_loop s hs n t [] (acc ++ (one cur).map mk) (i + 1) (i + 1) false (by omega) h3 (by omega) (by omega) (by simp) (by rw [List.length_append, List.length_map]; omega)
            simpa using this
        · rw [if_neg (fun h => e3 h.1)]
          exact Ev.neg (fun h => e3 ((u8_eq c 44 (by omega)).1 h)) (piecesR_loop s hs n t _ acc f (i + 1) q (by omega) h3 (by omega) (by omega) hm (by omega))
    cases q with
    | false =>
      rw [rf_plain _ _ _ _ (by simp)]
      exact Ev.neg (by simp) (tail false (by simp) (by simp))
    | true =>
      refine Ev.pos rfl (Ev.pos (by omega) ?_)
      by_cases e2 : c = 92
      · rw [show ((c.toNat : Int) == 92) = true from by simpa using (u8_eq c 92 (by omega)).2 e2]
        have e1 : ¬ c = 34 := by rw [e2]; decide
        rw [rf_cons, if_neg e1, if_pos ⟨rfl, e2⟩]
        refine Ev.step (fun _ => sprref12_pieces.j1.eq_2 ..) (Ev.pos rfl ?_)
        rw [w1, w2]
        cases t with
        | nil =>
          have h4 := end_drop h3
          have hB : B (s.extract f s.size) = cur ++ [c] := by
            rw [B_from, ← hm]
            exact (List.take_of_length_le (by rw [List.length_drop, ← size_B]; omega)).symm
          have hsz : (s.extract f s.size).size ≤ 1100000 := by rw [size_B, B_from, List.length_drop, ← size_B]; omega
          refine Ev.step (fun _ => sprref12_pieces.l0.eq_2 ..) (Ev.neg (by omega) (Ev.pos (by omega) (Ev.pos (by omega) ?_)))
          rw [Int.toNat_natCast]
          refine Ev.bind (pieceR_ok acc _ (by omega) (by omega)) (Ev.konst ?_)
          rw [hB]
        | cons d u =>
          obtain ⟨_, h5, h6⟩ := bt_drop h3
          have hm2 := take_more hm h3 (by omega)
          simp only [List.length_cons] at hn
          have := piecesR_loop s hs n u (cur ++ [c, d]) acc f (i + 2) true (by omega) h6 (by omega) (by omega) (by rw [show i + 2 - f = i + 1 + 1 - f from by omega, hm2]; simp) (by omega)
          exact this
      · rw [show ((c.toNat : Int) == 92) = false from by simpa using fun h => e2 ((u8_eq c 92 (by omega)).1 h), rf_plain _ _ _ _ (fun h => e2 h.2)]
        exact tail false (by simp) (fun h => e2 h.2)
theorem piecesR_ok (s : ByteArray) (hs : s.size ≤ 1100000) : Ev (fun k => sprref12_pieces.f k s) ((pieces (B s)).map mk) := by
  unfold sprref12_pieces.f
  have := piecesR_loop s hs (B s).length (B s) [] [] 0 0 false (Nat.le_refl _) rfl (by omega) (by omega) (by simp) (by simp)
  simpa [pieces] using this
theorem splitR_loop (v : List ByteArray) (hv : v.length ≤ 1000000) (hb : ∀ s ∈ v, s.size ≤ 1100000) : ∀ (l : List ByteArray) (i : Nat) (acc : List ByteArray), v.drop i = l → acc.length ≤ 1100001 * i → i + l.length ≤ 400 →
    Ev (fun k => sprref12_Split.l0 k v acc (i : Int)) (acc ++ (splits l).map mk)
  | [], i, acc, hl, ha, hi => by
    have := drop_nil hl
    refine Ev.step (fun _ => sprref12_Split.l0.eq_2 ..) (Ev.neg (by omega) (Ev.konst ?_))
    simp [splits]
  | s :: t, i, acc, hl, ha, hi => by
    obtain ⟨h1, h2, h3⟩ := drop_cons hl
    have hs := hb s (List.mem_of_getElem? h2)
    have hp := pieces_len (B s).length (B s) (Nat.le_refl _)
    rw [← size_B] at hp
    simp only [List.length_cons] at hi
    refine Ev.step (fun _ => sprref12_Split.l0.eq_2 ..) (Ev.pos (by omega) (Ev.pos (by omega) ?_))
    rw [rdOf_of h2]
    refine Ev.bind (piecesR_ok s hs) (Ev.pos (by rw [List.length_map]; omega) ?_)
    rw [wrap_id (by omega) (by omega), cast_succ]
    have := splitR_loop v hv hb t (i + 1) (acc ++ (pieces (B s)).map mk) h3 (by rw [List.length_append, List.length_map]; omega) (by omega)
    simpa [splits] using this
theorem CopyTexts_ok (l : List ByteArray) (h : l.length ≤ 1000000000) : sprref_CopyTexts.f l = some l := by
  unfold sprref_CopyTexts.f
  simp only [Option.bind_some, List.length_nil, Nat.zero_add, List.nil_append]
  rw [if_pos (by omega)]
theorem sum_size : ∀ (l : List ByteArray), l.length ≤ (l.map fun y => (y.size + 1)).sum ∧ ∀ s ∈ l, s.size + 1 ≤ (l.map fun y => (y.size + 1)).sum
  | [] => by simp
  | x :: t => by
    obtain ⟨h1, h2⟩ := sum_size t
    simp only [List.map_cons, List.sum_cons, List.length_cons]
    refine ⟨by omega, fun s hs => ?_⟩
    rcases List.mem_cons.1 hs with rfl | hs
    · omega
    · have := h2 s hs; omega
theorem splits_few : ∀ (v : List ByteArray), (splits v).length ≤ (v.map fun y => (y.size + 1)).sum
  | [] => by simp [splits]
  | s :: t => by
    have h1 := splits_few t
    have h2 := pieces_len (B s).length (B s) (Nat.le_refl _)
    rw [← size_B] at h2
    simp only [splits, List.flatMap_cons, List.length_append, List.map_cons, List.sum_cons] at h1 ⊢
    omega
theorem HeadSplits (v : List ByteArray) (o n : List S45) (b : List ByteArray) (g0 : v.length ≤ maxLen ∧ ∀ x ∈ v, x.size ≤ maxLen) (g1 : o.length ≤ maxLen ∧ ∀ x ∈ o, x.f0.size ≤ maxLen ∧ x.f1.size ≤ maxLen) (g2 : n.length ≤ maxLen ∧ ∀ x ∈ n, x.f0.size ≤ maxLen ∧ x.f1.size ≤ maxLen) (g3 : b.length ≤ maxLen ∧ ∀ x ∈ b, x.size ≤ maxLen)
    (hk : ((v.map fun y => (y.size + 1)).sum + 1) + ((o.map fun y => ((y.f0.size + 1) + (y.f1.size + 1) + 1)).sum + 1) + ((n.map fun y => ((y.f0.size + 1) + (y.f1.size + 1) + 1)).sum + 1) + ((b.map fun y => (y.size + 1)).sum + 1) ≤ 1048576) : ∃ k, sprlaw13_HeadSplits.f k v o n b = some true := by
  have ho : okL o := g1.2
  have hn : okL n := g2.2
  have hb : ∀ s ∈ b, s.size ≤ 9223372036854775807 := g3.2
  obtain ⟨hv1, hv2⟩ := sum_size v
  have hsum : (v.map fun y => (y.size + 1)).sum ≤ 1048576 := by omega
  have big : Ev (fun k => sprlaw13_HeadSplits.j0 k v o n b true) true := Ev.step (fun _ => sprlaw13_HeadSplits.j0.eq_2 ..) (Ev.pos rfl (Ev.bind first_ok (Ev.now _)))
  refine Ev.rounds ?_
  unfold sprlaw13_HeadSplits.f
  refine Ev.bind first_ok (Ev.pos rfl ?_)
  obtain ⟨b3, hb3, hf3⟩ := texts_ok v
  obtain ⟨b0, hb0, hf0⟩ := Few_ok o
  obtain ⟨b1, hb1, hf1⟩ := Few_ok n
  obtain ⟨b2, hb2, hf2⟩ := texts_ok b
  refine Ev.bind hb3 ?_
  by_cases e3 : b3 = false
  · exact Ev.neg (by rw [e3]; simp) big
  have e3' : b3 = true := by cases b3 <;> simp_all
  refine Ev.pos e3' (Ev.bind hb0 ?_)
  by_cases e0 : b0 = false
  · exact Ev.neg (by rw [e0]; simp) big
  have e0' : b0 = true := by cases b0 <;> simp_all
  refine Ev.pos e0' (Ev.bind hb1 ?_)
  by_cases e1 : b1 = false
  · exact Ev.neg (by rw [e1]; simp) big
  have e1' : b1 = true := by cases b1 <;> simp_all
  refine Ev.pos e1' (Ev.bind hb2 ?_)
  cases hq : b2 with
  | false => exact big
  | true =>
    have l3 := hf3 e3'
    have l0 := hf0 e0'
    have l1 := hf1 e1'
    have l2 := hf2 hq
    have hc : sprref_CopyTexts.f v = some v := CopyTexts_ok v (by omega)
    have hS : Ev (fun k => head_Split.f k v) ((splits v).map mk) := by
      have := split_loop v (by omega) (fun s hs => by have := hv2 s hs; omega) v 0 [] rfl (by simp) (by omega)
      rw [List.nil_append] at this
      exact this
    have hR : Ev (fun k => sprref12_Split.f k v) ((splits v).map mk) := by
      have := splitR_loop v (by omega) (fun s hs => by have := hv2 s hs; omega) v 0 [] rfl (by simp) (by omega)
      rw [List.nil_append] at this
      exact this
    have hT1 : Ev (fun k => sprref_Texts.f k ((splits v).map mk) ((splits v).map mk)) true := by
      have := Texts_ok ((splits v).map mk) ((splits v).map mk) (by rw [List.length_map]; have := splits_few v; omega)
      simpa using this
    have hT2 : Ev (fun k => sprref_Texts.f k v v) true := by
      have := Texts_ok v v (by omega)
      simpa using this
    have hF : Ev (fun k => sprref_Fields.f k (mergeOf o n b) (mergeOf o n b)) true := by
      have := Fields_ok (mergeOf o n b) (mergeOf o n b) (by have := merge_len o n b; omega)
      simpa using this
    exact Ev.step (fun _ => sprlaw13_HeadSplits.j0.eq_2 ..) (Ev.neg (by simp) (Ev.bnd hc (Ev.bind first_ok (Ev.pos rfl (Ev.bind hS (Ev.bind hR (Ev.bind hT1 (Ev.pos rfl (Ev.bnd (Merge_ok ho hn (by omega) hb) (Ev.bind (MergeR_ok (by omega) (by omega) (by omega) ho hn hb) (Ev.bind hF (Ev.pos rfl (Ev.bind hT2 (Ev.now _))))))))))))))

end Go.Proofs.YtmcjmmdejgoamaaDoor.Pure
