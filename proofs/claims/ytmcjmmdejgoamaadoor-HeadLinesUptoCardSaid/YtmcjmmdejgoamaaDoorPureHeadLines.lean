/-
The law HeadLines: those that have a name, one of them all, without it, set, by the program and by the reference, are the same; the lines stay.
-/
import Derived.Test.YtmcjmmdejgoamaaDoorQ13
set_option linter.unusedVariables false
set_option linter.unusedSimpArgs false
namespace Go.Proofs.YtmcjmmdejgoamaaDoor.Pure
open Go.RowKit Go.Proofs.YtmcjmmdejgoamaaDoor.Q Go.Proofs.YtmcjmmdejgoamaaDoorW.PrintWords Go.Proofs.YtmcjmmdejgoamaaDoorW.PrintLast
theorem wrap_id {x : Int} (h0 : -9223372036854775808 ≤ x) (h1 : x ≤ 9223372036854775807) : wrap64 x = x := by unfold wrap64; omega
theorem Ev.succ {α : Type} {g : Nat → Option α} {r : α} (h : Ev (fun k => g (k + 1)) r) : Ev g r := Ev.step (fun _ => rfl) h
theorem Ev.konst {α : Type} {o : Option α} {r : α} (h : o = some r) : Ev (fun _ => o) r := ⟨0, fun _ _ => h⟩
theorem Ev.at {α : Type} {g : Nat → Option α} {r : α} (K : Nat) (h : ∀ k, g (k + K) = some r) : Ev g r := ⟨K, fun n hn => by
  obtain ⟨m, rfl⟩ : ∃ m, n = m + K := ⟨n - K, by omega⟩
  exact h m⟩
theorem drop_cons {α : Type} {l : List α} {i : Nat} {c : α} {t : List α} (h : l.drop i = c :: t) : i < l.length ∧ l[i]? = some c ∧ l.drop (i + 1) = t := by
  have h1 : (l.drop i)[0]? = some c := by rw [h]; rfl
  rw [List.getElem?_drop] at h1
  simp only [Nat.add_zero] at h1
  refine ⟨(List.getElem?_eq_some_iff.1 h1).1, h1, ?_⟩
  rw [← List.drop_drop, h]; rfl
theorem drop_nil {α : Type} {l : List α} {i : Nat} (h : l.drop i = []) : l.length ≤ i := by
  simpa using h
theorem rd_of {l : List Int} {i : Nat} {c : Int} (h : l[i]? = some c) : rd l (i : Int) = c := by
  unfold rd; rw [Int.toNat_natCast, List.getD_eq_getElem?_getD, h]; rfl
theorem rdOf_of {α : Type} {d : α} {l : List α} {i : Nat} {c : α} (h : l[i]? = some c) : rdOf d l (i : Int) = c := by
  unfold rdOf; rw [Int.toNat_natCast, List.getD_eq_getElem?_getD, h]; rfl
theorem cast_succ (i : Nat) : ((i : Int) + 1) = ((i + 1 : Nat) : Int) := by omega
theorem Ev.pos {α : Type} {c : Prop} [Decidable c] {A B : Nat → Option α} {r : α} (h : c) (k : Ev A r) : Ev (fun n => if c then A n else B n) r := Ev.congr (fun _ => if_pos h) k
theorem Ev.neg {α : Type} {c : Prop} [Decidable c] {A B : Nat → Option α} {r : α} (h : ¬ c) (k : Ev B r) : Ev (fun n => if c then A n else B n) r := Ev.congr (fun _ => if_neg h) k
theorem Ev.bnd {α β : Type} {o : Option β} {a : β} {f : Nat → β → Option α} {r : α} (h : o = some a) (k : Ev (fun n => f n a) r) : Ev (fun n => o.bind (f n)) r := by
  subst h; exact k
/-- A text's bytes. -/
def B (s : ByteArray) : List UInt8 := s.data.toList
def mk (l : List UInt8) : ByteArray := ⟨l.toArray⟩
theorem B_mk (l : List UInt8) : B (mk l) = l := rfl
theorem mk_B (s : ByteArray) : mk (B s) = s := rfl
theorem B_inj {s t : ByteArray} (h : B s = B t) : s = t := by rw [← mk_B s, ← mk_B t, h]
theorem toList_B (s : ByteArray) : s.toList = B s := Lib.toList_data s
theorem size_B (s : ByteArray) : s.size = (B s).length := Lib.size_eq s
theorem B_extract (s : ByteArray) (a b : Nat) : B (s.extract a b) = ((B s).drop a).take (b - a) := Lib.extract_data s a b
theorem B_append (s t : ByteArray) : B (s ++ t) = B s ++ B t := by
  unfold B
  rw [ByteArray.data_append, Array.toList_append]
theorem B_to (s : ByteArray) (n : Nat) : B (s.extract 0 n) = (B s).take n := by rw [B_extract, List.drop_zero, Nat.sub_zero]
theorem B_from (s : ByteArray) (n : Nat) : B (s.extract n s.size) = (B s).drop n := by
  rw [B_extract, size_B]
  exact List.take_of_length_le (by rw [List.length_drop]; omega)
theorem bt_of {s : ByteArray} {i : Nat} {c : UInt8} (h : (B s)[i]? = some c) : bt s (i : Int) = (c.toNat : Int) := by
  unfold bt
  have hi : i < s.size := by rw [size_B]; exact (List.getElem?_eq_some_iff.1 h).1
  rw [Int.toNat_natCast, dif_pos hi]
  have : (s[i]'hi) = c := by
    have h1 : (B s)[i]? = some (s[i]'hi) := by
      unfold B
      rw [Array.getElem?_toList]
      exact Array.getElem?_eq_getElem _
    rw [h1] at h
    exact Option.some.inj h
  rw [this]
/-- The byte that a suffix begins with. -/
theorem bt_drop {s : ByteArray} {i : Nat} {c : UInt8} {t : List UInt8} (h : (B s).drop i = c :: t) : bt s (i : Int) = (c.toNat : Int) ∧ i < s.size ∧ (B s).drop (i + 1) = t := by
  obtain ⟨h1, h2, h3⟩ := drop_cons h
  exact ⟨bt_of h2, by rw [size_B]; exact h1, h3⟩
theorem end_drop {s : ByteArray} {i : Nat} (h : (B s).drop i = []) : s.size ≤ i := by rw [size_B]; exact drop_nil h
theorem u8_eq (c : UInt8) (n : Nat) (h : n < 256) : ((c.toNat : Int) = (n : Int)) ↔ c = UInt8.ofNat n := by
  constructor
  · intro e
    have e' : c.toNat = n := by omega
    rw [← e']; exact (UInt8.ofNat_toNat).symm
  · intro e
    rw [e, UInt8.toNat_ofNat']
    have : n % 2 ^ 8 = n := Nat.mod_eq_of_lt h
    omega
theorem u8_lt (c : UInt8) : (c.toNat : Int) < 256 ∧ 0 ≤ (c.toNat : Int) := by
  have := UInt8.toNat_lt c
  omega
/-! names in small letters -/
theorem lowb_low (c : UInt8) : Own.lowb (Own.lowb c) = Own.lowb c := by
  by_cases h : 65 ≤ c.toNat ∧ c.toNat ≤ 90
  · have e : Own.lowb c = c + 32 := by unfold Own.lowb; rw [if_pos h]
    have h2 : (c + 32).toNat = c.toNat + 32 := by
      rw [UInt8.toNat_add]
      show (c.toNat + 32) % 256 = _
      omega
    rw [e]
    unfold Own.lowb
    rw [if_neg (by omega)]
  · have e : Own.lowb c = c := by unfold Own.lowb; rw [if_neg h]
    rw [e, e]
theorem low_low (s : ByteArray) : Own.low (Own.low s) = Own.low s := by
  apply B_inj
  show ((s.data.toList.map Own.lowb).map Own.lowb) = s.data.toList.map Own.lowb
  rw [List.map_map]
  congr 1
  funext c
  exact lowb_low c
theorem low_size (s : ByteArray) : (Own.low s).size = s.size := by
  rw [size_B, size_B s]
  show (s.data.toList.map Own.lowb).length = _
  rw [List.length_map]; rfl
theorem same_iff (a b : ByteArray) : Own.same a b = true ↔ Own.low a = Own.low b := by
  unfold Own.same
  rw [toList_B, toList_B, beq_iff_eq]
  exact ⟨B_inj, fun h => by rw [h]⟩
theorem same_congr {a a' b b' : ByteArray} (h1 : Own.low a = Own.low a') (h2 : Own.low b = Own.low b') : Own.same a b = Own.same a' b' := by
  rw [Bool.eq_iff_iff, same_iff, same_iff, h1, h2]
theorem same_low (a b : ByteArray) : Own.same a (Own.low b) = Own.same a b := same_congr rfl (low_low b)
theorem same_self (a : ByteArray) : Own.same a a = true := (same_iff a a).2 rfl
theorem okS_of {s : ByteArray} (h : s.size ≤ 9223372036854775807) : Own.okS s = true := decide_eq_true h
instance : DecidableEq S45 := fun a b => decidable_of_iff (a.f0 = b.f0 ∧ a.f1 = b.f1) ⟨fun h => by cases a; cases b; cases h.1; cases h.2; rfl, fun h => by rw [h]; exact ⟨rfl, rfl⟩⟩
/-- Lines that the form lets in. -/
def okL (l : List S45) : Prop := ∀ x ∈ l, x.f0.size ≤ 9223372036854775807 ∧ x.f1.size ≤ 9223372036854775807
theorem okL.all {l : List S45} (h : okL l) : (l.all fun x => Own.okS x.f0) = true := List.all_eq_true.2 fun x hx => okS_of (h x hx).1
theorem okL.filter {l : List S45} (h : okL l) (p : S45 → Bool) : okL (l.filter p) := fun x hx => h x (List.mem_filter.1 hx).1
theorem okL.append {l m : List S45} (h : okL l) (k : okL m) : okL (l ++ m) := fun x hx => (List.mem_append.1 hx).elim (h x) (k x)
theorem allOf_append (l m : List S45) (n : ByteArray) : allOf (l ++ m) n = allOf l n ++ allOf m n := by
  unfold allOf; rw [List.filter_append, List.map_append]
theorem allOf_nil_iff (l : List S45) (n : ByteArray) : allOf l n = [] ↔ ∀ x ∈ l, Own.same x.f0 n = false := by
  unfold allOf
  rw [List.map_eq_nil_iff, List.filter_eq_nil_iff]
  exact ⟨fun h x hx => by simpa using h x hx, fun h x hx => by simpa using h x hx⟩
theorem allOf_congr (l : List S45) {a b : ByteArray} (h : Own.low a = Own.low b) : allOf l a = allOf l b := by
  unfold allOf
  congr 2
  funext x
  exact same_congr rfl h
theorem allOf_len (l : List S45) (n : ByteArray) : (allOf l n).length ≤ l.length := by
  unfold allOf; rw [List.length_map]; exact List.length_filter_le _ _
theorem Texts_loop (a b : List ByteArray) (hl : a.length = b.length) (hb : a.length ≤ 1000000000) : ∀ (s t : List ByteArray) (i : Nat), a.drop i = s → b.drop i = t → Ev (fun k => sprref_Texts.l0 k a b i) (decide (s = t))
  | [], t, i, hs, ht => by
    have h1 := drop_nil hs
    have h2 : t = [] := by rw [← ht]; exact List.drop_eq_nil_of_le (by omega)
    subst h2
    exact Ev.step (fun _ => sprref_Texts.l0.eq_2 ..) (Ev.neg (by omega) (Ev.now _))
  | c :: s, [], i, hs, ht => by
    have h1 := drop_nil ht
    have h2 := drop_cons hs
    omega
  | c :: s, d :: t, i, hs, ht => by
    obtain ⟨h1, h2, h3⟩ := drop_cons hs
    obtain ⟨g1, g2, g3⟩ := drop_cons ht
    refine Ev.step (fun _ => sprref_Texts.l0.eq_2 ..) (Ev.pos (by omega) (Ev.pos (by omega) (Ev.pos (by omega) ?_)))
    rw [rdOf_of h2, rdOf_of g2, toList_B, toList_B]
    by_cases e : c = d
    · refine Ev.pos (by rw [e]) ?_
      rw [wrap_id (by omega) (by omega), cast_succ]
      have := Texts_loop a b hl hb s t (i + 1) h3 g3
      simpa [e] using this
    · refine Ev.neg (fun h => e (B_inj h)) ?_
      exact Ev.konst (by simp [e])
theorem Texts_ok (a b : List ByteArray) (hb : a.length ≤ 1000000000) : Ev (fun k => sprref_Texts.f k a b) (decide (a = b)) := by
  unfold sprref_Texts.f
  by_cases h : a.length = b.length
  · exact Ev.pos (by omega) (Texts_loop a b h hb a b 0 rfl rfl)
  · refine Ev.neg (by omega) (Ev.konst ?_)
    have : a ≠ b := fun e => h (by rw [e])
    simp [this]
theorem Lower_ok {s : ByteArray} (h : s.size ≤ 9223372036854775807) : head_Lower.f s = some (Own.low s) := by
  unfold head_Lower.f; rw [if_pos h]
theorem All_ok {l : List S45} (hl : l.length < 4398046511104) (ho : okL l) {n : ByteArray} (hn : n.size ≤ 9223372036854775807) : Ev (fun k => head_All.f k l n) (allOf l n) :=
  Ev.of (fun k => head_All.mono _ _ k) (head_All_is l n hl (okS_of hn) (fun x hx => okS_of (ho x hx).1))
theorem Fields_loop (a b : List S45) (hl : a.length = b.length) (hb : a.length ≤ 1000000000) : ∀ (s t : List S45) (i : Nat), a.drop i = s → b.drop i = t → Ev (fun k => sprref_Fields.l0 k a b (i : Int)) (decide (s = t))
  | [], t, i, h1, h2 => by
    have := drop_nil h1
    have e : t = [] := by rw [← h2]; exact List.drop_eq_nil_of_le (by omega)
    rw [e]
    exact Ev.step (fun _ => sprref_Fields.l0.eq_2 ..) (Ev.neg (by omega) (Ev.now _))
  | x :: s, [], i, h1, h2 => by
    have := drop_nil h2
    have := (drop_cons h1).1
    omega
  | x :: s, y :: t, i, h1, h2 => by
    obtain ⟨a1, a2, a3⟩ := drop_cons h1
    obtain ⟨b1, b2, b3⟩ := drop_cons h2
    have r1 : rd_T45 a (i : Int) = x := by unfold rd_T45; rw [Int.toNat_natCast, List.getD_eq_getElem?_getD, a2]; rfl
    have r2 : rd_T45 b (i : Int) = y := by unfold rd_T45; rw [Int.toNat_natCast, List.getD_eq_getElem?_getD, b2]; rfl
    refine Ev.step (fun _ => sprref_Fields.l0.eq_2 ..) (Ev.pos (by omega) (Ev.pos (by omega) (Ev.pos (by omega) ?_)))
    rw [r1, r2, toList_B, toList_B, toList_B, toList_B]
    by_cases e0 : x.f0 = y.f0
    · refine Ev.pos (by rw [e0]) ?_
      by_cases e1 : x.f1 = y.f1
      · refine Ev.pos (by rw [e1]) ?_
        rw [wrap_id (by omega) (by omega), cast_succ]
        have e : x = y := by cases x; cases y; cases e0; cases e1; rfl
        have ih := Fields_loop a b hl hb s t (i + 1) a3 b3
        have e2 : decide (x :: s = y :: t) = decide (s = t) := by rw [e]; simp
        rw [e2]; exact ih
      · refine Ev.neg (fun h => e1 (B_inj h)) ?_
        rw [decide_eq_false (fun h => e1 (by rw [(List.cons.inj h).1]))]; exact Ev.now _
    · refine Ev.neg (fun h => e0 (B_inj h)) ?_
      rw [decide_eq_false (fun h => e0 (by rw [(List.cons.inj h).1]))]; exact Ev.now _
theorem Fields_ok (a b : List S45) (hb : a.length ≤ 1000000000) : Ev (fun k => sprref_Fields.f k a b) (decide (a = b)) := by
  unfold sprref_Fields.f
  by_cases h : a.length = b.length
  · exact Ev.pos (by omega) (Fields_loop a b h hb a b 0 rfl rfl)
  · refine Ev.neg (by omega) ?_
    rw [decide_eq_false (fun e => h (by rw [e]))]; exact Ev.now _
/-- Few lines: at most 80. -/
theorem Few_loop (l : List S45) : ∀ (t : List S45) (i : Nat) (n : Int), l.drop i = t → 0 ≤ n → n ≤ 80000 → i ≤ 80 → ∃ b, Ev (fun k => sprlaw13_Few.l0 k l n (i : Int)) b ∧ (b = true → l.length ≤ 80)
  | [], i, n, h, h0, h1, hi => by
    have := drop_nil h
    by_cases hl : l.length ≤ 80
    · exact ⟨_, Ev.step (fun _ => sprlaw13_Few.l0.eq_2 ..) (Ev.neg (by omega) (Ev.pos (by omega) (Ev.now _))), fun _ => hl⟩
    · exact ⟨false, Ev.step (fun _ => sprlaw13_Few.l0.eq_2 ..) (Ev.neg (by omega) (Ev.neg (by omega) (Ev.now _))), fun h => by cases h⟩
  | x :: t, i, n, h, h0, h1, hi => by
    obtain ⟨a1, a2, a3⟩ := drop_cons h
    by_cases h80 : i < 80
    · have mn2 : ∀ a b : Int, mn a b ≤ b ∧ (0 ≤ a → 0 ≤ b → 0 ≤ mn a b) := by intro a b; unfold mn; split <;> omega
      obtain ⟨b, hb, hf⟩ := Few_loop l t (i + 1) (mn (wrap64 ((wrap64 (n + (mn (((rd_T45 l (i : Int)).f0).size : Int) 20000))) + (mn (((rd_T45 l (i : Int)).f1).size : Int) 20000))) 80000) a3 (by
        have q1 := mn2 (((rd_T45 l (i : Int)).f0).size : Int) 20000
        have q2 := mn2 (((rd_T45 l (i : Int)).f1).size : Int) 20000
        have q3 := q1.2 (by omega) (by omega)
        have q4 := q2.2 (by omega) (by omega)
        rw [wrap_id (x := n + _) (by omega) (by omega), wrap_id (by omega) (by omega)]
        exact (mn2 _ _).2 (by omega) (by omega)) ((mn2 _ _).1) (by omega)
      refine ⟨b, Ev.step (fun _ => sprlaw13_Few.l0.eq_2 ..) (Ev.pos (by omega) (Ev.pos (by omega) (Ev.pos (by omega) ?_))), hf⟩
      rw [wrap_id (x := (i : Int) + 1) (by omega) (by omega), cast_succ]
      exact hb
    · refine ⟨false, Ev.step (fun _ => sprlaw13_Few.l0.eq_2 ..) (Ev.pos (by omega) (Ev.neg (by omega) (Ev.neg (by omega) (Ev.now _)))), fun h => by cases h⟩
theorem Few_ok (l : List S45) : ∃ b, Ev (fun k => sprlaw13_Few.f k l) b ∧ (b = true → l.length ≤ 80) := Few_loop l l 0 0 rfl (by omega) (by omega) (by omega)
theorem first_ok : Ev (fun k => sprlaw13_first.f k) true := Ev.of (fun k => sprlaw13_first.mono k) (k := 60) (by kernel_rfl)
theorem LowerR_ok {s : ByteArray} (h : s.size ≤ 9223372036854775807) : sprref12_Lower.f s = some (Own.low s) := by
  unfold sprref12_Lower.f; rw [if_pos h]
theorem same_dec (a b : ByteArray) : ((Own.low a).toList = (Own.low b).toList) ↔ Own.same a b = true := by
  unfold Own.same; rw [beq_iff_eq]
theorem AllR_loop (l : List S45) (n : ByteArray) (hl : l.length ≤ 1000000) (ho : okL l) (hn : n.size ≤ 9223372036854775807) : ∀ (t : List S45) (i : Nat) (acc : List ByteArray), l.drop i = t → acc.length ≤ i → Ev (fun k => sprref12_All.l0 k l n acc (i : Int)) (acc ++ allOf t n)
  | [], i, acc, ht, ha => by
    have := drop_nil ht
    have e : allOf [] n = [] := rfl
    rw [e, List.append_nil]
    exact Ev.step (fun _ => sprref12_All.l0.eq_2 ..) (Ev.neg (by omega) (Ev.now _))
  | x :: t, i, acc, ht, ha => by
    obtain ⟨a1, a2, a3⟩ := drop_cons ht
    have hx := ho x (List.mem_of_getElem? a2)
    have r1 : rd_T45 l (i : Int) = x := by unfold rd_T45; rw [Int.toNat_natCast, List.getD_eq_getElem?_getD, a2]; rfl
    refine Ev.step (fun _ => sprref12_All.l0.eq_2 ..) (Ev.pos (by omega) (Ev.pos (by omega) ?_))
    rw [r1, wrap_id (by omega) (by omega), cast_succ]
    refine Ev.bnd (LowerR_ok hx.1) (Ev.bnd (LowerR_ok hn) ?_)
    cases hs : Own.same x.f0 n with
    | true =>
      have ih := AllR_loop l n hl ho hn t (i + 1) (acc ++ [x.f1]) a3 (by rw [List.length_append, List.length_singleton]; omega)
      have e : allOf (x :: t) n = x.f1 :: allOf t n := by simp [allOf, hs]
      rw [e]
      rw [List.append_assoc] at ih
      exact Ev.pos ((same_dec _ _).2 hs) (Ev.pos (by omega) ih)
    | false =>
      have ih := AllR_loop l n hl ho hn t (i + 1) acc a3 (by omega)
      have e : allOf (x :: t) n = allOf t n := by simp [allOf, hs]
      rw [e]
      exact Ev.neg (fun h => by rw [(same_dec _ _).1 h] at hs; cases hs) ih
theorem AllR_ok {l : List S45} (hl : l.length ≤ 1000000) (ho : okL l) {n : ByteArray} (hn : n.size ≤ 9223372036854775807) : Ev (fun k => sprref12_All.f k l n) (allOf l n) := AllR_loop l n hl ho hn l 0 [] rfl (Nat.le_refl 0)
theorem texts_ok (l : List ByteArray) : ∃ b, Ev (fun k => sprlaw13_texts.f k l) b ∧ (b = true → l.length ≤ 80) := texts_loop l l 0 0 rfl (by omega) (by omega) (by omega)
where
  texts_loop (l : List ByteArray) : ∀ (t : List ByteArray) (i : Nat) (n : Int), l.drop i = t → 0 ≤ n → n ≤ 80000 → i ≤ 80 → ∃ b, Ev (fun k => sprlaw13_texts.l0 k l n (i : Int)) b ∧ (b = true → l.length ≤ 80)
  | [], i, n, h, h0, h1, hi => by
    have := drop_nil h
    by_cases hl : l.length ≤ 80
    · exact ⟨_, Ev.step (fun _ => sprlaw13_texts.l0.eq_2 ..) (Ev.neg (by omega) (Ev.pos (by omega) (Ev.now _))), fun _ => hl⟩
    · exact ⟨false, Ev.step (fun _ => sprlaw13_texts.l0.eq_2 ..) (Ev.neg (by omega) (Ev.neg (by omega) (Ev.now _))), fun h => by cases h⟩
  | x :: t, i, n, h, h0, h1, hi => by
    obtain ⟨a1, a2, a3⟩ := drop_cons h
    by_cases h80 : i < 80
    · have mn2 : ∀ a b : Int, mn a b ≤ b ∧ (0 ≤ a → 0 ≤ b → 0 ≤ mn a b) := by intro a b; unfold mn; split <;> omega
      obtain ⟨b, hb, hf⟩ := texts_loop l t (i + 1) (mn (wrap64 (n + (mn ((rdOf ByteArray.empty l (i : Int)).size : Int) 20000))) 80000) a3 (by
        have q1 := mn2 ((rdOf ByteArray.empty l (i : Int)).size : Int) 20000
        have q3 := q1.2 (by omega) (by omega)
        rw [wrap_id (by omega) (by omega)]
        exact (mn2 _ _).2 (by omega) (by omega)) ((mn2 _ _).1) (by omega)
      refine ⟨b, Ev.step (fun _ => sprlaw13_texts.l0.eq_2 ..) (Ev.pos (by omega) (Ev.pos (by omega) (Ev.pos (by omega) ?_))), hf⟩
      rw [wrap_id (x := (i : Int) + 1) (by omega) (by omega), cast_succ]
      exact hb
    · refine ⟨false, Ev.step (fun _ => sprlaw13_texts.l0.eq_2 ..) (Ev.pos (by omega) (Ev.neg (by omega) (Ev.neg (by omega) (Ev.now _)))), fun h => by cases h⟩
def dropOf (l : List S45) (n : ByteArray) : List S45 := l.filter fun x => !Own.same x.f0 n
def setOf (l : List S45) (n v : ByteArray) : List S45 := dropOf l n ++ [⟨n, v⟩]
theorem Drop_ok {l : List S45} (hl : l.length ≤ 80) (ho : okL l) {n : ByteArray} (hn : n.size ≤ 9223372036854775807) : head_Drop.f l n = some (dropOf l n) := by
  unfold head_Drop.f; rw [if_pos ⟨by omega, okS_of hn, ho.all⟩]; rfl
theorem dropOf_len (l : List S45) (n : ByteArray) : (dropOf l n).length ≤ l.length := List.length_filter_le _ _
theorem Set_ok {l : List S45} (hl : l.length ≤ 80) (ho : okL l) {n : ByteArray} (hn : n.size ≤ 9223372036854775807) (v : ByteArray) : head_Set.f l n v = some (setOf l n v) := by
  unfold head_Set.f
  rw [Drop_ok hl ho hn, Option.bind_some, if_pos (by have := dropOf_len l n; omega)]; rfl
theorem dropOf_cons (x : S45) (t : List S45) (n : ByteArray) : dropOf (x :: t) n = if Own.same x.f0 n = true then dropOf t n else x :: dropOf t n := by
  unfold dropOf
  rw [List.filter_cons]
  cases h : Own.same x.f0 n <;> simp
theorem DropR_loop (l : List S45) (n : ByteArray) (hl : l.length ≤ 1000000) (ho : okL l) (hn : n.size ≤ 9223372036854775807) : ∀ (t : List S45) (i : Nat) (acc : List S45), l.drop i = t → acc.length ≤ i → Ev (fun k => sprref12_Drop.l0 k l n acc (i : Int)) (acc ++ dropOf t n)
  | [], i, acc, ht, ha => by
    have := drop_nil ht
    have e : dropOf [] n = [] := rfl
    rw [e, List.append_nil]
    exact Ev.step (fun _ => sprref12_Drop.l0.eq_2 ..) (Ev.neg (by omega) (Ev.now _))
  | x :: t, i, acc, ht, ha => by
    obtain ⟨a1, a2, a3⟩ := drop_cons ht
    have hx := ho x (List.mem_of_getElem? a2)
    have r1 : rd_T45 l (i : Int) = x := by unfold rd_T45; rw [Int.toNat_natCast, List.getD_eq_getElem?_getD, a2]; rfl
    refine Ev.step (fun _ => sprref12_Drop.l0.eq_2 ..) (Ev.pos (by omega) (Ev.pos (by omega) ?_))
    rw [r1, wrap_id (by omega) (by omega), cast_succ, dropOf_cons]
    refine Ev.bnd (LowerR_ok hx.1) (Ev.bnd (LowerR_ok hn) ?_)
    cases hs : Own.same x.f0 n with
    | true =>
      rw [if_pos rfl]
      exact Ev.pos ((same_dec _ _).2 hs) (DropR_loop l n hl ho hn t (i + 1) acc a3 (by omega))
    | false =>
      have ih := DropR_loop l n hl ho hn t (i + 1) (acc ++ [x]) a3 (by rw [List.length_append, List.length_singleton]; omega)
      rw [if_neg (by simp)]
      rw [List.append_assoc, List.singleton_append] at ih
      exact Ev.neg (fun h => by rw [(same_dec _ _).1 h] at hs; cases hs) (Ev.pos (by omega) ih)
theorem DropR_ok {l : List S45} (hl : l.length ≤ 80) (ho : okL l) {n : ByteArray} (hn : n.size ≤ 9223372036854775807) : Ev (fun k => sprref12_Drop.f k l n) (dropOf l n) := DropR_loop l n (by omega) ho hn l 0 [] rfl (Nat.le_refl 0)
theorem SetR_ok {l : List S45} (hl : l.length ≤ 80) (ho : okL l) {n : ByteArray} (hn : n.size ≤ 9223372036854775807) (v : ByteArray) : Ev (fun k => sprref12_Set.f k l n v) (setOf l n v) := by
  unfold sprref12_Set.f
  exact Ev.bind (DropR_ok hl ho hn) (Ev.pos (by have := dropOf_len l n; omega) (Ev.now _))
def sp : List UInt8 := [44, 32]
def joinOf (l : List ByteArray) : List UInt8 := Lib.join (l.map (·.data.toList)) sp
theorem joinTail_snoc (r : List (List UInt8)) (x : List UInt8) : Lib.joinTail sp (r ++ [x]) = Lib.joinTail sp r ++ (sp ++ x) := by
  unfold Lib.joinTail; simp
theorem join_snoc : ∀ (l : List (List UInt8)) (x : List UInt8), l ≠ [] → Lib.join (l ++ [x]) sp = Lib.join l sp ++ sp ++ x
  | [], _, h => absurd rfl h
  | y :: r, x, _ => by
    rw [List.cons_append, Lib.join_cons, Lib.join_cons, joinTail_snoc]; simp
theorem joinTail_len : ∀ r : List (List UInt8), (Lib.joinTail sp r).length = (r.map fun x => x.length + 2).sum
  | [] => rfl
  | x :: r => by
    have ih := joinTail_len r
    unfold Lib.joinTail at ih ⊢
    rw [List.map_cons, List.flatten_cons, List.length_append, ih, List.map_cons, List.sum_cons, List.length_append]
    have : sp.length = 2 := rfl
    omega
theorem join_len : ∀ l : List (List UInt8), (Lib.join l sp).length ≤ (l.map fun x => x.length + 2).sum
  | [] => by rw [Lib.join_nil]; simp
  | x :: r => by
    rw [Lib.join_cons, List.length_append, joinTail_len, List.map_cons, List.sum_cons]; omega
theorem OneR_loop (v : List ByteArray) (hv : v.length ≤ 1000000) : ∀ (t : List ByteArray) (i : Nat) (acc : ByteArray), v.drop i = t → B acc = joinOf (v.take i) → acc.size + (t.map fun x => x.size + 2).sum ≤ 1000000000 → Ev (fun k => sprref12_One.l0 k v acc (i : Int)) (mk (joinOf v), decide ((v.length : Int) > 0))
  | [], i, acc, ht, ha, hb => by
    have := drop_nil ht
    rw [List.take_of_length_le (by omega)] at ha
    rw [← ha, mk_B]
    exact Ev.step (fun _ => sprref12_One.l0.eq_2 ..) (Ev.neg (by omega) (Ev.now _))
  | x :: t, i, acc, ht, ha, hb => by
    obtain ⟨a1, a2, a3⟩ := drop_cons ht
    rw [List.map_cons, List.sum_cons] at hb
    have htk : v.take (i + 1) = v.take i ++ [x] := by rw [List.take_add_one, a2]; rfl
    have es : (⟨#[44, 32]⟩ : ByteArray).size = 2 := rfl
    have e1 : (acc ++ (⟨#[44, 32]⟩ : ByteArray)).size = acc.size + 2 := by rw [size_B, B_append, List.length_append, ← size_B, ← size_B]; rfl
    have e2 : ∀ a : ByteArray, (a ++ x).size = a.size + x.size := fun a => by rw [size_B, B_append, List.length_append, ← size_B, ← size_B]
    refine Ev.step (fun _ => sprref12_One.l0.eq_2 ..) (Ev.pos (by omega) ?_)
    rw [rdOf_of a2, wrap_id (by omega) (by omega), cast_succ]
    by_cases h0 : (i : Int) > 0
    · have hne : (v.take i).map (fun s : ByteArray => s.data.toList) ≠ [] := by
        intro e
        have := congrArg List.length e
        rw [List.length_map, List.length_take, List.length_nil] at this
        omega
      have ih := OneR_loop v hv t (i + 1) ((acc ++ (⟨#[44, 32]⟩ : ByteArray)) ++ x) a3 (by
        rw [B_append, B_append, ha, htk]
        unfold joinOf
        rw [List.map_append, List.map_cons, List.map_nil, join_snoc _ _ hne]; rfl) (by rw [e2, e1]; omega)
      exact Ev.pos h0 (Ev.pos (by omega) (Ev.pos (by omega) (Ev.pos (by rw [e1]; omega) ih)))
    · have hi : i = 0 := by omega
      have ih := OneR_loop v hv t (i + 1) (acc ++ x) a3 (by
        rw [B_append, ha, htk, hi]
        unfold joinOf
        rw [List.take_zero, List.map_nil, Lib.join_nil, List.nil_append, List.nil_append, List.map_cons, List.map_nil, Lib.join_one]; rfl) (by rw [e2]; omega)
      exact Ev.neg h0 (Ev.pos (by omega) (Ev.pos (by omega) ih))
theorem Same_loop (a b : List S45) (hl : a.length = b.length) (hb : a.length ≤ 1000000000) : ∀ (s t : List S45) (i : Nat), a.drop i = s → b.drop i = t → Ev (fun k => api_Field.l0 k a b (a.length : Int) (i : Int)) (decide (s = t))
  | [], t, i, h1, h2 => by
    have := drop_nil h1
    have e : t = [] := by rw [← h2]; exact List.drop_eq_nil_of_le (by omega)
    rw [e]
    exact Ev.step (fun _ => api_Field.l0.eq_2 ..) (Ev.neg (by omega) (Ev.now _))
  | x :: s, [], i, h1, h2 => by
    have := drop_nil h2
    have := (drop_cons h1).1
    omega
  | x :: s, y :: t, i, h1, h2 => by
    obtain ⟨a1, a2, a3⟩ := drop_cons h1
    obtain ⟨b1, b2, b3⟩ := drop_cons h2
    have r1 : rd_T45 a (i : Int) = x := by unfold rd_T45; rw [Int.toNat_natCast, List.getD_eq_getElem?_getD, a2]; rfl
    have r2 : rd_T45 b (i : Int) = y := by unfold rd_T45; rw [Int.toNat_natCast, List.getD_eq_getElem?_getD, b2]; rfl
    refine Ev.step (fun _ => api_Field.l0.eq_2 ..) (Ev.pos (by omega) (Ev.pos (by omega) (Ev.pos (by omega) (Ev.pos (by omega) ?_))))
    rw [r1, r2, toList_B, toList_B, toList_B, toList_B]
    by_cases e : x = y
    · refine Ev.neg (by rw [e]; simp) ?_
      rw [wrap_id (by omega) (by omega), cast_succ]
      have e2 : decide (x :: s = y :: t) = decide (s = t) := by rw [e]; simp
      rw [e2]; exact Same_loop a b hl hb s t (i + 1) a3 b3
    · refine Ev.pos ?_ ?_
      · rw [Bool.or_eq_true]
        by_cases e0 : x.f0 = y.f0
        · right
          have e1 : ¬ B x.f1 = B y.f1 := fun h => e (by have := B_inj h; cases x; cases y; cases e0; cases this; rfl)
          simpa using e1
        · left
          have e1 : ¬ B x.f0 = B y.f0 := fun h => e0 (B_inj h)
          simpa using e1
      · rw [decide_eq_false (fun h => e (List.cons.inj h).1)]; exact Ev.now _
theorem Same_ok (a b : List S45) (hb : a.length ≤ 1000000000) : Ev (fun k => head_Same.f k a b) (decide (a = b)) := by
  unfold head_Same.f
  refine Ev.bind (a := decide (a = b)) ?_ (Ev.now _)
  unfold api_Field.f
  by_cases h : a.length = b.length
  · exact Ev.pos (by omega) (Same_loop a b h hb a b 0 rfl rfl)
  · refine Ev.neg (by omega) ?_
    rw [decide_eq_false (fun e => h (by rw [e]))]; exact Ev.now _
theorem allOf_weight (n : ByteArray) : ∀ l : List S45, ((allOf l n).map fun x => x.size + 2).sum ≤ (l.map fun y => ((y.f0.size + 1) + (y.f1.size + 1) + 1)).sum
  | [] => by simp [allOf]
  | x :: t => by
    have ih := allOf_weight n t
    cases hs : Own.same x.f0 n with
    | true =>
      have e : allOf (x :: t) n = x.f1 :: allOf t n := by simp [allOf, hs]
      rw [e, List.map_cons, List.sum_cons, List.map_cons, List.sum_cons]; omega
    | false =>
      have e : allOf (x :: t) n = allOf t n := by simp [allOf, hs]
      rw [e, List.map_cons, List.sum_cons]; omega
theorem lines_l0 (l m : List S45) (n : ByteArray) (o : ByteArray) (e : Bool) (ho : okL l) (hl : l.length ≤ 80) (hm : m.length ≤ 80) (hn : n.size ≤ 9223372036854775807) (len : Nat) (hlen : len ≤ 1000000) : ∀ (j i : Nat) (x : List S45), x.length = len → i + j = len → Ev (fun k => sprlaw13_HeadLines.l0 k l m n l o e o e x true (i : Int)) true
  | 0, i, x, hx, hi => by
    have hT : Ev (fun k => sprref_Texts.f k (allOf l n) (allOf l n)) true := by
      have := Texts_ok (allOf l n) (allOf l n) (by have := allOf_len l n; omega)
      simpa using this
    have hF : ∀ q : List S45, q.length ≤ 80 → Ev (fun k => sprref_Fields.f k q q) true := fun q hq => by
      have := Fields_ok q q (by omega)
      simpa using this
    have beq : ∀ b : Bool, (b == b) = true := by decide
    exact Ev.step (fun _ => sprlaw13_HeadLines.l0.eq_2 ..) (Ev.neg (by omega) (Ev.bind first_ok (Ev.pos rfl (Ev.pos rfl (Ev.bind (All_ok (by omega) ho hn) (Ev.bind (AllR_ok (by omega) ho hn) (Ev.bind hT (Ev.pos rfl (Ev.pos rfl (Ev.pos (beq _) (Ev.bnd (Drop_ok hl ho hn) (Ev.bind (DropR_ok hl ho hn) (Ev.bind (hF _ (by have := dropOf_len l n; omega)) (Ev.pos rfl (Ev.bind (Same_ok l m (by omega)) (Ev.bind (Fields_ok l m (by omega)) (Ev.pos (beq _) (Ev.bind (hF l hl) (Ev.now _)))))))))))))))))))
  | j + 1, i, x, hx, hi => by
    refine Ev.step (fun _ => sprlaw13_HeadLines.l0.eq_2 ..) (Ev.pos (by omega) (Ev.pos (by omega) ?_))
    rw [wrap_id (by omega) (by omega), cast_succ]
    exact lines_l0 l m n o e ho hl hm hn len hlen j (i + 1) _ (by rw [List.length_set]; exact hx) (by omega)
theorem HeadLines (l m : List S45) (n v : ByteArray) (g0 : l.length ≤ maxLen ∧ ∀ x ∈ l, x.f0.size ≤ maxLen ∧ x.f1.size ≤ maxLen) (g1 : m.length ≤ maxLen ∧ ∀ x ∈ m, x.f0.size ≤ maxLen ∧ x.f1.size ≤ maxLen) (g2 : n.size ≤ maxLen) (g3 : v.size ≤ maxLen)
    (hk : ((l.map fun y => ((y.f0.size + 1) + (y.f1.size + 1) + 1)).sum + 1) + ((m.map fun y => ((y.f0.size + 1) + (y.f1.size + 1) + 1)).sum + 1) + (n.size + 1) + (v.size + 1) ≤ 1048576) : ∃ k, sprlaw13_HeadLines.f k l m n v = some true := by
  have ho : okL l := g0.2
  have big : Ev (fun k => sprlaw13_HeadLines.j0 k l m n v true) true := Ev.step (fun _ => sprlaw13_HeadLines.j0.eq_2 ..) (Ev.pos rfl (Ev.bind first_ok (Ev.now _)))
  refine Ev.rounds ?_
  unfold sprlaw13_HeadLines.f
  refine Ev.bind first_ok (Ev.pos rfl ?_)
  obtain ⟨b0, hb0, hf0⟩ := Few_ok l
  obtain ⟨b1, hb1, hf1⟩ := Few_ok m
  refine Ev.bind hb0 ?_
  by_cases e0 : b0 = false
  · exact Ev.neg (by rw [e0]; simp) big
  have e0' : b0 = true := by cases b0 <;> simp_all
  refine Ev.pos e0' (Ev.bind hb1 ?_)
  by_cases e1 : b1 = false
  · exact Ev.neg (by rw [e1]; simp) big
  have e1' : b1 = true := by cases b1 <;> simp_all
  refine Ev.pos e1' ?_
  have l0 := hf0 e0'
  have l1 := hf1 e1'
  by_cases h2 : (n.size : Int) > 2000
  · exact Ev.pos h2 big
  refine Ev.neg h2 ?_
  by_cases h3 : (v.size : Int) > 2000
  · rw [decide_eq_true h3]; exact big
  rw [decide_eq_false h3]
  have hn : n.size ≤ 9223372036854775807 := by omega
  have hc : sprref_CopyFields.f l = some l := by
    unfold sprref_CopyFields.f
    rw [Option.bind_some, if_pos (by simp; omega)]; rfl
  have hw := allOf_weight n l
  have hal := allOf_len l n
  have hjl : (joinOf (allOf l n)).length ≤ 1048576 := by
    have h4 := join_len ((allOf l n).map (·.data.toList))
    rw [List.map_map] at h4
    have e : ((allOf l n).map ((fun x : List UInt8 => x.length + 2) ∘ fun s : ByteArray => s.data.toList)) = (allOf l n).map fun x => x.size + 2 := by
      apply List.map_congr_left
      intro x _
      show x.data.toList.length + 2 = x.size + 2
      rw [size_B]; rfl
    rw [e] at h4
    unfold joinOf; omega
  have hj : strings_Join.f (allOf l n) (⟨#[44, 32]⟩ : ByteArray) = some (mk (joinOf (allOf l n))) := by
    unfold strings_Join.f
    rw [if_pos ⟨by omega, by have : (joinOf (allOf l n)).length ≤ 140737488355328 := by omega
                             exact this⟩]; rfl
  have hO : Ev (fun k => head_One.f k l n) (mk (joinOf (allOf l n)), decide (((allOf l n).length : Int) > 0)) := by
    unfold head_One.f
    exact Ev.bind (All_ok (by omega) ho hn) (Ev.bnd hj (Ev.now _))
  have hR : Ev (fun k => sprref12_One.f k l n) (mk (joinOf (allOf l n)), decide (((allOf l n).length : Int) > 0)) := by
    unfold sprref12_One.f
    exact Ev.bind (AllR_ok (by omega) ho hn) (OneR_loop (allOf l n) (by omega) (allOf l n) 0 _ rfl rfl (by show 0 + _ ≤ _; omega))
  have hsl : (setOf l n v).length ≤ 81 := by
    unfold setOf
    have := dropOf_len l n
    rw [List.length_append, List.length_singleton]; omega
  have hF : Ev (fun k => sprref_Fields.f k (setOf l n v) (setOf l n v)) true := by
    have := Fields_ok (setOf l n v) (setOf l n v) (by omega)
    simpa using this
  exact Ev.step (fun _ => sprlaw13_HeadLines.j0.eq_2 ..) (Ev.neg (by simp) (Ev.bnd hc (Ev.bind hO (Ev.bind hR (Ev.bnd (Set_ok l0 ho hn v) (Ev.bind (SetR_ok l0 ho hn v) (Ev.bind hF (lines_l0 l m n _ _ ho l0 l1 hn (setOf l n v).length (by omega) (setOf l n v).length 0 _ rfl (by omega)))))))))

end Go.Proofs.YtmcjmmdejgoamaaDoor.Pure
