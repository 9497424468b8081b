/-
The law HeadPieces: pieces are not empty, have no blanks at their ends, and, of values without quotes, no commas; pieces of the pieces are they.
-/
import Derived.Test.YtmcjmmdejgoamaaDoorQ8
set_option linter.unusedVariables false
set_option linter.unusedSimpArgs false
namespace Go.Proofs.YtmcjmmdejgoamaaDoor.Pure
open Go.RowKit Go.Proofs.YtmcjmmdejgoamaaDoor.Q Go.Proofs.YtmcjmmdejgoamaaDoorW.PrintWords Go.Proofs.YtmcjmmdejgoamaaDoorW.PrintLast
theorem wrap_id {x : Int} (h0 : -9223372036854775808 ≤ x) (h1 : x ≤ 9223372036854775807) : wrap64 x = x := by unfold wrap64; omega
theorem Ev.succ {α : Type} {g : Nat → Option α} {r : α} (h : Ev (fun k => g (k + 1)) r) : Ev g r := Ev.step (fun _ => rfl) h
theorem Ev.konst {α : Type} {o : Option α} {r : α} (h : o = some r) : Ev (fun _ => o) r := ⟨0, fun _ _ => h⟩
theorem Ev.at {α : Type} {g : Nat → Option α} {r : α} (K : Nat) (h : ∀ k, g (k + K) = some r) : Ev g r := ⟨K, fun n hn => by
  obtain ⟨m, rfl⟩ : ∃ m, n = m + K := ⟨n - K, by omega⟩
  exact h m⟩
theorem drop_cons {α : Type} {l : List α} {i : Nat} {c : α} {t : List α} (h : l.drop i = c :: t) : i < l.length ∧ l[i]? = some c ∧ l.drop (i + 1) = t := by
  have h1 : (l.drop i)[0]? = some c := by rw [h]; rfl
  rw [List.getElem?_drop] at h1
  simp only [Nat.add_zero] at h1
  refine ⟨(List.getElem?_eq_some_iff.1 h1).1, h1, ?_⟩
  rw [← List.drop_drop, h]; rfl
theorem drop_nil {α : Type} {l : List α} {i : Nat} (h : l.drop i = []) : l.length ≤ i := by
  simpa using h
theorem rd_of {l : List Int} {i : Nat} {c : Int} (h : l[i]? = some c) : rd l (i : Int) = c := by
  unfold rd; rw [Int.toNat_natCast, List.getD_eq_getElem?_getD, h]; rfl
theorem rdOf_of {α : Type} {d : α} {l : List α} {i : Nat} {c : α} (h : l[i]? = some c) : rdOf d l (i : Int) = c := by
  unfold rdOf; rw [Int.toNat_natCast, List.getD_eq_getElem?_getD, h]; rfl
theorem cast_succ (i : Nat) : ((i : Int) + 1) = ((i + 1 : Nat) : Int) := by omega
theorem Ev.pos {α : Type} {c : Prop} [Decidable c] {A B : Nat → Option α} {r : α} (h : c) (k : Ev A r) : Ev (fun n => if c then A n else B n) r := Ev.congr (fun _ => if_pos h) k
theorem Ev.neg {α : Type} {c : Prop} [Decidable c] {A B : Nat → Option α} {r : α} (h : ¬ c) (k : Ev B r) : Ev (fun n => if c then A n else B n) r := Ev.congr (fun _ => if_neg h) k
theorem Ev.bnd {α β : Type} {o : Option β} {a : β} {f : Nat → β → Option α} {r : α} (h : o = some a) (k : Ev (fun n => f n a) r) : Ev (fun n => o.bind (f n)) r := by
  subst h; exact k
theorem texts_ok (l : List ByteArray) : ∃ b, Ev (fun k => sprlaw13_texts.f k l) b ∧ (b = true → l.length ≤ 80) := texts_loop l l 0 0 rfl (by omega) (by omega) (by omega)
where
  texts_loop (l : List ByteArray) : ∀ (t : List ByteArray) (i : Nat) (n : Int), l.drop i = t → 0 ≤ n → n ≤ 80000 → i ≤ 80 → ∃ b, Ev (fun k => sprlaw13_texts.l0 k l n (i : Int)) b ∧ (b = true → l.length ≤ 80)
  | [], i, n, h, h0, h1, hi => by
    have := drop_nil h
    by_cases hl : l.length ≤ 80
    · exact ⟨_, Ev.step (fun _ => sprlaw13_texts.l0.eq_2 ..) (Ev.neg (by omega) (Ev.pos (by omega) (Ev.now _))), fun _ => hl⟩
    · exact ⟨false, Ev.step (fun _ => sprlaw13_texts.l0.eq_2 ..) (Ev.neg (by omega) (Ev.neg (by omega) (Ev.now _))), fun h => by cases h⟩
  | x :: t, i, n, h, h0, h1, hi => by
    obtain ⟨a1, a2, a3⟩ := drop_cons h
    by_cases h80 : i < 80
    · have mn2 : ∀ a b : Int, mn a b ≤ b ∧ (0 ≤ a → 0 ≤ b → 0 ≤ mn a b) := by intro a b; unfold mn; split <;> omega
      obtain ⟨b, hb, hf⟩ := texts_loop l t (i + 1) (mn (wrap64 (n + (mn ((rdOf ByteArray.empty l (i : Int)).size : Int) 20000))) 80000) a3 (by
        have q1 := mn2 ((rdOf ByteArray.empty l (i : Int)).size : Int) 20000
        have q3 := q1.2 (by omega) (by omega)
        rw [wrap_id (by omega) (by omega)]
        exact (mn2 _ _).2 (by omega) (by omega)) ((mn2 _ _).1) (by omega)
      refine ⟨b, Ev.step (fun _ => sprlaw13_texts.l0.eq_2 ..) (Ev.pos (by omega) (Ev.pos (by omega) (Ev.pos (by omega) ?_))), hf⟩
      rw [wrap_id (x := (i : Int) + 1) (by omega) (by omega), cast_succ]
      exact hb
    · refine ⟨false, Ev.step (fun _ => sprlaw13_texts.l0.eq_2 ..) (Ev.pos (by omega) (Ev.neg (by omega) (Ev.neg (by omega) (Ev.now _)))), fun h => by cases h⟩
/-- A text's bytes. -/
def B (s : ByteArray) : List UInt8 := s.data.toList
def mk (l : List UInt8) : ByteArray := ⟨l.toArray⟩
theorem B_mk (l : List UInt8) : B (mk l) = l := rfl
theorem mk_B (s : ByteArray) : mk (B s) = s := rfl
theorem B_inj {s t : ByteArray} (h : B s = B t) : s = t := by rw [← mk_B s, ← mk_B t, h]
theorem toList_B (s : ByteArray) : s.toList = B s := Lib.toList_data s
theorem size_B (s : ByteArray) : s.size = (B s).length := Lib.size_eq s
theorem B_extract (s : ByteArray) (a b : Nat) : B (s.extract a b) = ((B s).drop a).take (b - a) := Lib.extract_data s a b
theorem B_append (s t : ByteArray) : B (s ++ t) = B s ++ B t := by
  unfold B
  rw [ByteArray.data_append, Array.toList_append]
theorem B_to (s : ByteArray) (n : Nat) : B (s.extract 0 n) = (B s).take n := by rw [B_extract, List.drop_zero, Nat.sub_zero]
theorem B_from (s : ByteArray) (n : Nat) : B (s.extract n s.size) = (B s).drop n := by
  rw [B_extract, size_B]
  exact List.take_of_length_le (by rw [List.length_drop]; omega)
theorem bt_of {s : ByteArray} {i : Nat} {c : UInt8} (h : (B s)[i]? = some c) : bt s (i : Int) = (c.toNat : Int) := by
  unfold bt
  have hi : i < s.size := by rw [size_B]; exact (List.getElem?_eq_some_iff.1 h).1
  rw [Int.toNat_natCast, dif_pos hi]
  have : (s[i]'hi) = c := by
    have h1 : (B s)[i]? = some (s[i]'hi) := by
      unfold B
      rw [Array.getElem?_toList]
      exact Array.getElem?_eq_getElem _
    rw [h1] at h
    exact Option.some.inj h
  rw [this]
/-- The byte that a suffix begins with. -/
theorem bt_drop {s : ByteArray} {i : Nat} {c : UInt8} {t : List UInt8} (h : (B s).drop i = c :: t) : bt s (i : Int) = (c.toNat : Int) ∧ i < s.size ∧ (B s).drop (i + 1) = t := by
  obtain ⟨h1, h2, h3⟩ := drop_cons h
  exact ⟨bt_of h2, by rw [size_B]; exact h1, h3⟩
theorem end_drop {s : ByteArray} {i : Nat} (h : (B s).drop i = []) : s.size ≤ i := by rw [size_B]; exact drop_nil h
theorem u8_eq (c : UInt8) (n : Nat) (h : n < 256) : ((c.toNat : Int) = (n : Int)) ↔ c = UInt8.ofNat n := by
  constructor
  · intro e
    have e' : c.toNat = n := by omega
    rw [← e']; exact (UInt8.ofNat_toNat).symm
  · intro e
    rw [e, UInt8.toNat_ofNat']
    have : n % 2 ^ 8 = n := Nat.mod_eq_of_lt h
    omega
theorem u8_lt (c : UInt8) : (c.toNat : Int) < 256 ∧ 0 ≤ (c.toNat : Int) := by
  have := UInt8.toNat_lt c
  omega
/-! names in small letters -/
theorem lowb_low (c : UInt8) : Own.lowb (Own.lowb c) = Own.lowb c := by
  by_cases h : 65 ≤ c.toNat ∧ c.toNat ≤ 90
  · have e : Own.lowb c = c + 32 := by unfold Own.lowb; rw [if_pos h]
    have h2 : (c + 32).toNat = c.toNat + 32 := by
      rw [UInt8.toNat_add]
      show (c.toNat + 32) % 256 = _
      omega
    rw [e]
    unfold Own.lowb
    rw [if_neg (by omega)]
  · have e : Own.lowb c = c := by unfold Own.lowb; rw [if_neg h]
    rw [e, e]
theorem low_low (s : ByteArray) : Own.low (Own.low s) = Own.low s := by
  apply B_inj
  show ((s.data.toList.map Own.lowb).map Own.lowb) = s.data.toList.map Own.lowb
  rw [List.map_map]
  congr 1
  funext c
  exact lowb_low c
theorem low_size (s : ByteArray) : (Own.low s).size = s.size := by
  rw [size_B, size_B s]
  show (s.data.toList.map Own.lowb).length = _
  rw [List.length_map]; rfl
theorem same_iff (a b : ByteArray) : Own.same a b = true ↔ Own.low a = Own.low b := by
  unfold Own.same
  rw [toList_B, toList_B, beq_iff_eq]
  exact ⟨B_inj, fun h => by rw [h]⟩
theorem same_congr {a a' b b' : ByteArray} (h1 : Own.low a = Own.low a') (h2 : Own.low b = Own.low b') : Own.same a b = Own.same a' b' := by
  rw [Bool.eq_iff_iff, same_iff, same_iff, h1, h2]
theorem same_low (a b : ByteArray) : Own.same a (Own.low b) = Own.same a b := same_congr rfl (low_low b)
theorem same_self (a : ByteArray) : Own.same a a = true := (same_iff a a).2 rfl
theorem okS_of {s : ByteArray} (h : s.size ≤ 9223372036854775807) : Own.okS s = true := decide_eq_true h
instance : DecidableEq S45 := fun a b => decidable_of_iff (a.f0 = b.f0 ∧ a.f1 = b.f1) ⟨fun h => by cases a; cases b; cases h.1; cases h.2; rfl, fun h => by rw [h]; exact ⟨rfl, rfl⟩⟩
/-- Lines that the form lets in. -/
def okL (l : List S45) : Prop := ∀ x ∈ l, x.f0.size ≤ 9223372036854775807 ∧ x.f1.size ≤ 9223372036854775807
theorem okL.all {l : List S45} (h : okL l) : (l.all fun x => Own.okS x.f0) = true := List.all_eq_true.2 fun x hx => okS_of (h x hx).1
theorem okL.filter {l : List S45} (h : okL l) (p : S45 → Bool) : okL (l.filter p) := fun x hx => h x (List.mem_filter.1 hx).1
theorem okL.append {l m : List S45} (h : okL l) (k : okL m) : okL (l ++ m) := fun x hx => (List.mem_append.1 hx).elim (h x) (k x)
theorem allOf_append (l m : List S45) (n : ByteArray) : allOf (l ++ m) n = allOf l n ++ allOf m n := by
  unfold allOf; rw [List.filter_append, List.map_append]
theorem allOf_nil_iff (l : List S45) (n : ByteArray) : allOf l n = [] ↔ ∀ x ∈ l, Own.same x.f0 n = false := by
  unfold allOf
  rw [List.map_eq_nil_iff, List.filter_eq_nil_iff]
  exact ⟨fun h x hx => by simpa using h x hx, fun h x hx => by simpa using h x hx⟩
theorem allOf_congr (l : List S45) {a b : ByteArray} (h : Own.low a = Own.low b) : allOf l a = allOf l b := by
  unfold allOf
  congr 2
  funext x
  exact same_congr rfl h
theorem allOf_len (l : List S45) (n : ByteArray) : (allOf l n).length ≤ l.length := by
  unfold allOf; rw [List.length_map]; exact List.length_filter_le _ _
theorem Texts_loop (a b : List ByteArray) (hl : a.length = b.length) (hb : a.length ≤ 1000000000) : ∀ (s t : List ByteArray) (i : Nat), a.drop i = s → b.drop i = t → Ev (fun k => sprref_Texts.l0 k a b i) (decide (s = t))
  | [], t, i, hs, ht => by
    have h1 := drop_nil hs
    have h2 : t = [] := by rw [← ht]; exact List.drop_eq_nil_of_le (by omega)
    subst h2
    exact Ev.step (fun _ => sprref_Texts.l0.eq_2 ..) (Ev.neg (by omega) (Ev.now _))
  | c :: s, [], i, hs, ht => by
    have h1 := drop_nil ht
    have h2 := drop_cons hs
    omega
  | c :: s, d :: t, i, hs, ht => by
    obtain ⟨h1, h2, h3⟩ := drop_cons hs
    obtain ⟨g1, g2, g3⟩ := drop_cons ht
    refine Ev.step (fun _ => sprref_Texts.l0.eq_2 ..) (Ev.pos (by omega) (Ev.pos (by omega) (Ev.pos (by omega) ?_)))
    rw [rdOf_of h2, rdOf_of g2, toList_B, toList_B]
    by_cases e : c = d
    · refine Ev.pos (by rw [e]) ?_
      rw [wrap_id (by omega) (by omega), cast_succ]
      have := Texts_loop a b hl hb s t (i + 1) h3 g3
      simpa [e] using this
    · refine Ev.neg (fun h => e (B_inj h)) ?_
      exact Ev.konst (by simp [e])
theorem Texts_ok (a b : List ByteArray) (hb : a.length ≤ 1000000000) : Ev (fun k => sprref_Texts.f k a b) (decide (a = b)) := by
  unfold sprref_Texts.f
  by_cases h : a.length = b.length
  · exact Ev.pos (by omega) (Texts_loop a b h hb a b 0 rfl rfl)
  · refine Ev.neg (by omega) (Ev.konst ?_)
    have : a ≠ b := fun e => h (by rw [e])
    simp [this]
theorem Lower_ok {s : ByteArray} (h : s.size ≤ 9223372036854775807) : head_Lower.f s = some (Own.low s) := by
  unfold head_Lower.f; rw [if_pos h]
theorem All_ok {l : List S45} (hl : l.length < 4398046511104) (ho : okL l) {n : ByteArray} (hn : n.size ≤ 9223372036854775807) : Ev (fun k => head_All.f k l n) (allOf l n) :=
  Ev.of (fun k => head_All.mono _ _ k) (head_All_is l n hl (okS_of hn) (fun x hx => okS_of (ho x hx).1))
theorem Fields_loop (a b : List S45) (hl : a.length = b.length) (hb : a.length ≤ 1000000000) : ∀ (s t : List S45) (i : Nat), a.drop i = s → b.drop i = t → Ev (fun k => sprref_Fields.l0 k a b (i : Int)) (decide (s = t))
  | [], t, i, h1, h2 => by
    have := drop_nil h1
    have e : t = [] := by rw [← h2]; exact List.drop_eq_nil_of_le (by omega)
    rw [e]
    exact Ev.step (fun _ => sprref_Fields.l0.eq_2 ..) (Ev.neg (by omega) (Ev.now _))
  | x :: s, [], i, h1, h2 => by
    have := drop_nil h2
    have := (drop_cons h1).1
    omega
  | x :: s, y :: t, i, h1, h2 => by
    obtain ⟨a1, a2, a3⟩ := drop_cons h1
    obtain ⟨b1, b2, b3⟩ := drop_cons h2
    have r1 : rd_T45 a (i : Int) = x := by unfold rd_T45; rw [Int.toNat_natCast, List.getD_eq_getElem?_getD, a2]; rfl
    have r2 : rd_T45 b (i : Int) = y := by unfold rd_T45; rw [Int.toNat_natCast, List.getD_eq_getElem?_getD, b2]; rfl
    refine Ev.step (fun _ => sprref_Fields.l0.eq_2 ..) (Ev.pos (by omega) (Ev.pos (by omega) (Ev.pos (by omega) ?_)))
    rw [r1, r2, toList_B, toList_B, toList_B, toList_B]
    by_cases e0 : x.f0 = y.f0
    · refine Ev.pos (by rw [e0]) ?_
      by_cases e1 : x.f1 = y.f1
      · refine Ev.pos (by rw [e1]) ?_
        rw [wrap_id (by omega) (by omega), cast_succ]
        have e : x = y := by cases x; cases y; cases e0; cases e1; rfl
        have ih := Fields_loop a b hl hb s t (i + 1) a3 b3
        have e2 : decide (x :: s = y :: t) = decide (s = t) := by rw [e]; simp
        rw [e2]; exact ih
      · refine Ev.neg (fun h => e1 (B_inj h)) ?_
        rw [decide_eq_false (fun h => e1 (by rw [(List.cons.inj h).1]))]; exact Ev.now _
    · refine Ev.neg (fun h => e0 (B_inj h)) ?_
      rw [decide_eq_false (fun h => e0 (by rw [(List.cons.inj h).1]))]; exact Ev.now _
theorem Fields_ok (a b : List S45) (hb : a.length ≤ 1000000000) : Ev (fun k => sprref_Fields.f k a b) (decide (a = b)) := by
  unfold sprref_Fields.f
  by_cases h : a.length = b.length
  · exact Ev.pos (by omega) (Fields_loop a b h hb a b 0 rfl rfl)
  · refine Ev.neg (by omega) ?_
    rw [decide_eq_false (fun e => h (by rw [e]))]; exact Ev.now _
/-- Few lines: at most 80. -/
theorem Few_loop (l : List S45) : ∀ (t : List S45) (i : Nat) (n : Int), l.drop i = t → 0 ≤ n → n ≤ 80000 → i ≤ 80 → ∃ b, Ev (fun k => sprlaw13_Few.l0 k l n (i : Int)) b ∧ (b = true → l.length ≤ 80)
  | [], i, n, h, h0, h1, hi => by
    have := drop_nil h
    by_cases hl : l.length ≤ 80
    · exact ⟨_, Ev.step (fun _ => sprlaw13_Few.l0.eq_2 ..) (Ev.neg (by omega) (Ev.pos (by omega) (Ev.now _))), fun _ => hl⟩
    · exact ⟨false, Ev.step (fun _ => sprlaw13_Few.l0.eq_2 ..) (Ev.neg (by omega) (Ev.neg (by omega) (Ev.now _))), fun h => by cases h⟩
  | x :: t, i, n, h, h0, h1, hi => by
    obtain ⟨a1, a2, a3⟩ := drop_cons h
    by_cases h80 : i < 80
    · have mn2 : ∀ a b : Int, mn a b ≤ b ∧ (0 ≤ a → 0 ≤ b → 0 ≤ mn a b) := by intro a b; unfold mn; split <;> omega
      obtain ⟨b, hb, hf⟩ := Few_loop l t (i + 1) (mn (wrap64 ((wrap64 (n + (mn (((rd_T45 l (i : Int)).f0).size : Int) 20000))) + (mn (((rd_T45 l (i : Int)).f1).size : Int) 20000))) 80000) a3 (by
        have q1 := mn2 (((rd_T45 l (i : Int)).f0).size : Int) 20000
        have q2 := mn2 (((rd_T45 l (i : Int)).f1).size : Int) 20000
        have q3 := q1.2 (by omega) (by omega)
        have q4 := q2.2 (by omega) (by omega)
        rw [wrap_id (x := n + _) (by omega) (by omega), wrap_id (by omega) (by omega)]
        exact (mn2 _ _).2 (by omega) (by omega)) ((mn2 _ _).1) (by omega)
      refine ⟨b, Ev.step (fun _ => sprlaw13_Few.l0.eq_2 ..) (Ev.pos (by omega) (Ev.pos (by omega) (Ev.pos (by omega) ?_))), hf⟩
      rw [wrap_id (x := (i : Int) + 1) (by omega) (by omega), cast_succ]
      exact hb
    · refine ⟨false, Ev.step (fun _ => sprlaw13_Few.l0.eq_2 ..) (Ev.pos (by omega) (Ev.neg (by omega) (Ev.neg (by omega) (Ev.now _)))), fun h => by cases h⟩
theorem Few_ok (l : List S45) : ∃ b, Ev (fun k => sprlaw13_Few.f k l) b ∧ (b = true → l.length ≤ 80) := Few_loop l l 0 0 rfl (by omega) (by omega) (by omega)
theorem first_ok : Ev (fun k => sprlaw13_first.f k) true := Ev.of (fun k => sprlaw13_first.mono k) (k := 60) (by kernel_rfl)
def blank (c : UInt8) : Bool := ([32, 9] : List UInt8).contains c
/-- Blanks and tabs at both ends away. -/
def tr (l : List UInt8) : List UInt8 := Lib.trimS l [32, 9]
def rdw (p : UInt8 → Bool) (l : List UInt8) : List UInt8 := (l.reverse.dropWhile p).reverse
theorem rdw_cons (p : UInt8 → Bool) (x : UInt8) (t : List UInt8) : rdw p (x :: t) = if rdw p t = [] then (if p x = true then [] else [x]) else x :: rdw p t := by
  unfold rdw
  rw [List.reverse_cons, List.dropWhile_append]
  by_cases h : (t.reverse.dropWhile p) = []
  · rw [h]
    by_cases hx : p x = true <;> simp [hx, List.dropWhile]
  · have h' : ¬ (t.reverse.dropWhile p).reverse = [] := fun e => h (List.reverse_eq_nil_iff.1 e)
    rw [if_neg h', if_neg (by simpa using h)]
    simp
theorem rdw_comm (p : UInt8 → Bool) : ∀ l : List UInt8, (rdw p l).dropWhile p = rdw p (l.dropWhile p)
  | [] => rfl
  | x :: t => by
    have ih := rdw_comm p t
    by_cases hx : p x = true
    · rw [List.dropWhile_cons, if_pos hx, ← ih, rdw_cons]
      by_cases h : rdw p t = []
      · rw [if_pos h, if_pos hx, h]
      · rw [if_neg h, List.dropWhile_cons, if_pos hx]
    · rw [List.dropWhile_cons, if_neg hx, rdw_cons]
      by_cases h : rdw p t = []
      · rw [if_pos h, if_neg hx, List.dropWhile_cons, if_neg hx]
      · rw [if_neg h, List.dropWhile_cons, if_neg hx]
theorem tr_eq (l : List UInt8) : tr l = rdw blank (l.dropWhile blank) := by
  rw [← rdw_comm]; rfl
theorem tr_nil : tr [] = [] := rfl
theorem length_dropWhile_le (p : UInt8 → Bool) : ∀ l : List UInt8, (l.dropWhile p).length ≤ l.length
  | [] => Nat.le_refl _
  | x :: t => by
    rw [List.dropWhile_cons]
    have := length_dropWhile_le p t
    split <;> simp only [List.length_cons] <;> omega
theorem tr_len (l : List UInt8) : (tr l).length ≤ l.length := by
  rw [tr_eq]
  unfold rdw
  have h1 := length_dropWhile_le blank (l.dropWhile blank).reverse
  have h2 := length_dropWhile_le blank l
  simp only [List.length_reverse] at h1 ⊢
  omega
/-- Nothing blank at the ends: it stays. -/
theorem dropWhile_idem (p : UInt8 → Bool) : ∀ l : List UInt8, (l.dropWhile p).dropWhile p = l.dropWhile p
  | [] => rfl
  | x :: t => by
    by_cases hx : p x = true
    · rw [List.dropWhile_cons, if_pos hx]; exact dropWhile_idem p t
    · rw [List.dropWhile_cons, if_neg hx, List.dropWhile_cons, if_neg hx]
theorem tr_tr (l : List UInt8) : tr (tr l) = tr l := by
  have e : ∀ m, tr m = (rdw blank m).dropWhile blank := fun m => by rw [tr_eq, rdw_comm]
  have r2 : ∀ m, rdw blank (rdw blank m) = rdw blank m := fun m => by unfold rdw; rw [List.reverse_reverse, dropWhile_idem]
  rw [e (tr l), tr_eq l, r2, rdw_comm, dropWhile_idem]
/-- Where the first piece ends, from a state on. -/
def pc : Bool → List UInt8 → Nat
  | _, [] => 0
  | q, c :: t =>
    if c = 34 then 1 + pc (!q) t
    else if q = true ∧ c = 92 then (match t with | [] => 1 | _ :: u => 2 + pc q u)
    else if c = 44 ∧ q = false then 0
    else 1 + pc q t
theorem pc_cons (q : Bool) (c : UInt8) (t : List UInt8) : pc q (c :: t) = if c = 34 then 1 + pc (!q) t else if q = true ∧ c = 92 then (match t with | [] => 1 | _ :: u => 2 + pc q u) else if c = 44 ∧ q = false then 0 else 1 + pc q t := by rw [pc.eq_def]
theorem pc_le : ∀ (l : List UInt8) (q : Bool), pc q l ≤ l.length
  | [], q => by simp [pc]
  | [c], q => by
    have : ∀ q, pc q ([] : List UInt8) = 0 := fun _ => rfl
    unfold pc
    (repeat' split) <;> simp_all [pc]
  | c :: d :: u, q => by
    have h1 := pc_le (d :: u) (!q)
    have h2 := pc_le (d :: u) q
    have h3 := pc_le u q
    unfold pc
    simp only [List.length_cons] at h1 h2 ⊢
    split
    · omega
    · split
      · omega
      · split <;> omega
def one (l : List UInt8) : List (List UInt8) := if tr l = [] then [] else [tr l]
/-- The pieces of one value: what has been gone through since the last cut, the state, the rest. -/
def rf : List UInt8 → Bool → List UInt8 → List (List UInt8)
  | cur, _, [] => one cur
  | cur, q, c :: t =>
    if c = 34 then rf (cur ++ [c]) (!q) t
    else if q = true ∧ c = 92 then (match t with | [] => one (cur ++ [c]) | d :: u => rf (cur ++ [c, d]) q u)
    else if c = 44 ∧ q = false then one cur ++ rf [] false t
    else rf (cur ++ [c]) q t
theorem rf_cons (cur : List UInt8) (q : Bool) (c : UInt8) (t : List UInt8) : rf cur q (c :: t) = if c = 34 then rf (cur ++ [c]) (!q) t else if q = true ∧ c = 92 then (match t with | [] => one (cur ++ [c]) | d :: u => rf (cur ++ [c, d]) q u) else if c = 44 ∧ q = false then one cur ++ rf [] false t else rf (cur ++ [c]) q t := by rw [rf.eq_def]
theorem rf_plain (cur : List UInt8) (q : Bool) (c : UInt8) (t : List UInt8) (h : ¬ (q = true ∧ c = 92)) : rf cur q (c :: t) = if c = 34 then rf (cur ++ [c]) (!q) t else if c = 44 ∧ q = false then one cur ++ rf [] false t else rf (cur ++ [c]) q t := by rw [rf_cons, if_neg h]
def pieces (l : List UInt8) : List (List UInt8) := rf [] false l
theorem rf_pc : ∀ (l cur : List UInt8) (q : Bool), rf cur q l = one (cur ++ l.take (pc q l)) ++ (if pc q l < l.length then pieces (l.drop (pc q l + 1)) else [])
  | [], cur, q => by simp [rf, pc]
  | [c], cur, q => by
    have h0 : ∀ q, pc q ([] : List UInt8) = 0 := fun _ => rfl
    have h1 : ∀ cur q, rf cur q [] = one cur := fun _ _ => rfl
    unfold rf pc
    by_cases e1 : c = 34
    · simp [e1, h0, h1]
    · by_cases e2 : q = true ∧ c = 92
      · simp [e1, e2]
      · by_cases e3 : c = 44 ∧ q = false
        · simp [e3, pieces, h1]
        · rw [if_neg e1, if_neg e2, if_neg e3, if_neg e1, if_neg e2, if_neg e3, h0, h1]
          simp
  | c :: d :: u, cur, q => by
    have i1 := rf_pc (d :: u) (cur ++ [c]) (!q)
    have i2 := rf_pc (d :: u) (cur ++ [c]) q
    have i3 := rf_pc u (cur ++ [c, d]) q
    rw [rf, pc]
    by_cases e1 : c = 34
    · rw [if_pos e1, if_pos e1, i1]
      rw [show (1 + pc (!q) (d :: u)) = pc (!q) (d :: u) + 1 from by omega, List.take_succ_cons, List.drop_succ_cons]
      simp only [List.length_cons, List.append_assoc, List.cons_append, List.nil_append]
      congr 1
      by_cases hlt : pc (!q) (d :: u) < u.length + 1
      · rw [if_pos hlt, if_pos (by omega)]; simp only [List.drop_succ_cons]
      · rw [if_neg hlt, if_neg (by omega)]
    · rw [if_neg e1, if_neg e1]
      by_cases e2 : q = true ∧ c = 92
      · rw [if_pos e2, if_pos e2]
        show rf (cur ++ [c, d]) q u = one (cur ++ (c :: d :: u).take (2 + pc q u)) ++ (if 2 + pc q u < (c :: d :: u).length then pieces ((c :: d :: u).drop (2 + pc q u + 1)) else [])
        rw [i3, show 2 + pc q u = pc q u + 1 + 1 from by omega, List.take_succ_cons, List.take_succ_cons, List.drop_succ_cons, List.drop_succ_cons]
        simp only [List.length_cons, List.append_assoc, List.cons_append, List.nil_append]
        congr 1
        by_cases hlt : pc q u < u.length
        · rw [if_pos hlt, if_pos (by omega)]
        · rw [if_neg hlt, if_neg (by omega)]
      · rw [if_neg e2, if_neg e2]
        by_cases e3 : c = 44 ∧ q = false
        · rw [if_pos e3, if_pos e3]
          simp [pieces]
        · rw [if_neg e3, if_neg e3, i2]
          rw [show (1 + pc q (d :: u)) = pc q (d :: u) + 1 from by omega, List.take_succ_cons, List.drop_succ_cons]
          simp only [List.length_cons, List.append_assoc, List.cons_append, List.nil_append]
          congr 1
          by_cases hlt : pc q (d :: u) < u.length + 1
          · rw [if_pos hlt, if_pos (by omega)]; simp only [List.drop_succ_cons]
          · rw [if_neg hlt, if_neg (by omega)]
theorem pieces_nil : pieces [] = [] := by simp [pieces, rf, one, tr_nil]
theorem pieces_pc (l : List UInt8) : pieces l = one (l.take (pc false l)) ++ (if pc false l < l.length then pieces (l.drop (pc false l + 1)) else []) := by
  have := rf_pc l [] false
  rw [List.nil_append] at this
  exact this
/-- The same where the rest is cut as the program cuts it. -/
theorem pieces_cut (l : List UInt8) : pieces l = one (l.take (pc false l)) ++ pieces (l.drop (min (pc false l + 1) l.length)) := by
  have h := pc_le l false
  rw [pieces_pc l]
  by_cases hlt : pc false l < l.length
  · rw [if_pos hlt, Nat.min_eq_left (by omega)]
  · rw [if_neg hlt, Nat.min_eq_right (by omega), List.drop_length, pieces_nil]
theorem one_len (l : List UInt8) : (one l).length ≤ 1 := by unfold one; split <;> simp
theorem pieces_len : ∀ (n : Nat) (l : List UInt8), l.length ≤ n → (pieces l).length ≤ l.length + 1
  | 0, l, h => by
    have : l = [] := by cases l <;> simp_all
    subst this; rw [pieces_nil]; simp
  | n + 1, l, h => by
    rw [pieces_pc l]
    have h1 := one_len (l.take (pc false l))
    by_cases hlt : pc false l < l.length
    · rw [if_pos hlt, List.length_append]
      have h2 := pieces_len n (l.drop (pc false l + 1)) (by rw [List.length_drop]; omega)
      rw [List.length_drop] at h2
      omega
    · rw [if_neg hlt, List.length_append]
      simp only [List.length_nil]; omega
/-- The pieces of several values. -/
def splits (v : List ByteArray) : List (List UInt8) := v.flatMap fun s => pieces (B s)
theorem Trim_ok (s : ByteArray) (h : s.size ≤ 9223372036854775807) : head_Trim.f s = some (mk (tr (B s))) := by
  unfold head_Trim.f strings_Trim.f
  rw [if_pos h, if_pos rfl]
  rfl
theorem piece_loop (s : ByteArray) (hs : s.size ≤ 1000000000) : ∀ (n : Nat) (l : List UInt8) (i : Nat) (q : Bool), l.length ≤ n → (B s).drop i = l → i ≤ s.size →
    Ev (fun k => head_piece.l0 k s q (i : Int)) ((i + pc q l : Nat) : Int)
  | n, [], i, q, hn, hl, hi => by
    have h1 := end_drop hl
    have e : i = s.size := by omega
    refine Ev.step (fun _ => head_piece.l0.eq_2 ..) (Ev.neg (by omega) (Ev.konst ?_))
    simp [pc, e]
  | 0, c :: t, i, q, hn, hl, hi => by simp at hn
  | n + 1, c :: t, i, q, hn, hl, hi => by
    obtain ⟨h1, h2, h3⟩ := bt_drop hl
    simp only [List.length_cons] at hn
    have w1 : wrap64 ((i : Int) + 1) = ((i + 1 : Nat) : Int) := by rw [wrap_id (by omega) (by omega)]; omega
    have w2 : wrap64 (((i + 1 : Nat) : Int) + 1) = ((i + 2 : Nat) : Int) := by rw [wrap_id (by omega) (by omega)]; omega
    refine Ev.step (fun _ => head_piece.l0.eq_2 ..) (Ev.pos (by omega) (Ev.pos (by omega) ?_))
    rw [h1, w1, pc_cons]
    by_cases e1 : c = 34
    · rw [if_pos e1]
      refine Ev.pos ((u8_eq c 34 (by omega)).2 e1) ?_
      have := piece_loop s hs n t (i + 1) (!q) (by omega) h3 (by omega)
      rw [show i + (1 + pc (!q) t) = i + 1 + pc (!q) t from by omega]
      exact this
    · rw [if_neg e1]
      refine Ev.neg (fun h => e1 ((u8_eq c 34 (by omega)).1 h)) ?_
      have tail : ∀ b, ¬ b = true → (¬ (q = true ∧ c = 92)) → Ev (fun k => head_piece.j1 k s q (i : Int) b) ((i + (if c = 44 ∧ q = false then 0 else 1 + pc q t) : Nat) : Int) := by
        intro b hb hq
        refine Ev.step (fun _ => head_piece.j1.eq_2 ..) (Ev.neg hb (Ev.pos (by omega) (Ev.pos (by omega) ?_)))
        rw [h1, w1]
        by_cases e3 : c = 44
        · refine Ev.pos ((u8_eq c 44 (by omega)).2 e3) ?_
          cases q with
          | true =>
            rw [if_neg (by simp)]
            refine Ev.pos rfl ?_
            have := piece_loop s hs n t (i + 1) true (by omega) h3 (by omega)
            rw [show i + (1 + pc true t) = i + 1 + pc true t from by omega]
            exact this
          | false =>
            rw [if_pos ⟨e3, rfl⟩]
            exact Ev.neg (by simp) (Ev.now _)
        · rw [if_neg (fun h => e3 h.1)]
          refine Ev.neg (fun h => e3 ((u8_eq c 44 (by omega)).1 h)) ?_
          have := piece_loop s hs n t (i + 1) q (by omega) h3 (by omega)
          rw [show i + (1 + pc q t) = i + 1 + pc q t from by omega]
          exact this
      cases q with
      | false =>
        rw [if_neg (by simp)]
        exact Ev.neg (by simp) (tail false (by simp) (by simp))
      | true =>
        refine Ev.pos rfl ?_
        by_cases e2 : c = 92
        · rw [if_pos ⟨rfl, e2⟩, show ((c.toNat : Int) == 92) = true from by simpa using (u8_eq c 92 (by omega)).2 e2]
          refine Ev.step (fun _ => head_piece.j1.eq_2 ..) (Ev.pos rfl ?_)
          rw [w1, w2]
          cases t with
          | nil =>
            have h4 := end_drop h3
            refine Ev.step (fun _ => head_piece.l0.eq_2 ..) (Ev.neg (by omega) (Ev.konst ?_))
            simp; omega
          | cons d u =>
            obtain ⟨_, h5, h6⟩ := bt_drop h3
            simp only [List.length_cons] at hn
            have := piece_loop s hs n u (i + 2) true (by omega) h6 (by omega)
            show Ev _ ((i + (2 + pc true u) : Nat) : Int)
            rw [show i + (2 + pc true u) = i + 2 + pc true u from by omega]
            exact this
        · rw [if_neg (fun h => e2 h.2), show ((c.toNat : Int) == 92) = false from by simpa using fun h => e2 ((u8_eq c 92 (by omega)).1 h)]
          exact tail false (by simp) (fun h => e2 h.2)
theorem piece_ok (s : ByteArray) (hs : s.size ≤ 1000000000) : Ev (fun k => head_piece.f k s) ((pc false (B s) : Nat) : Int) := by
  unfold head_piece.f
  have := piece_loop s hs (B s).length (B s) 0 false (Nat.le_refl _) rfl (by omega)
  rw [Nat.zero_add] at this
  exact this
theorem mn_nat (a b : Nat) : mn (a : Int) (b : Int) = ((min a b : Nat) : Int) := by
  unfold mn; split <;> omega
/-- One value is gone through; what follows is told. -/
theorem split_one (v : List ByteArray) (m : Int) (j : Int) {r : List ByteArray} (bd : Nat) (hbd : bd ≤ 1000000000) : ∀ (n : Nat) (s : ByteArray) (acc : List ByteArray), s.size ≤ n → s.size ≤ 1000000000 → acc.length + s.size + 1 ≤ bd →
    Ev (fun k => head_Split.l0 k (acc ++ (pieces (B s)).map mk) v m (wrap64 (j + 1))) r → Ev (fun k => head_Split.l1 k acc s v m j) r
  | n, s, acc, hn, hs, ha, hr => by
    refine Ev.step (fun _ => head_Split.l1.eq_2 ..) ?_
    by_cases he : B s = []
    · rw [he, pieces_nil] at hr
      simp only [List.map_nil, List.append_nil] at hr
      exact Ev.pos (by rw [toList_B, he]) hr
    · have hne : ¬ s.toList = [] := by rw [toList_B]; exact he
      have hp := pc_le (B s) false
      rw [← size_B] at hp
      have hpos : 0 < s.size := by
        rw [size_B]
        cases h : B s with
        | nil => exact absurd h he
        | cons _ _ => simp
      have w1 : wrap64 (((pc false (B s) : Nat) : Int) + 1) = ((pc false (B s) + 1 : Nat) : Int) := by rw [wrap_id (by omega) (by omega)]; omega
      have e1 : ((mn ((pc false (B s) + 1 : Nat) : Int) (s.size : Int)) : Int).toNat = min (pc false (B s) + 1) s.size := by rw [mn_nat]; exact Int.toNat_natCast _
      have h0 : 0 ≤ mn ((pc false (B s) + 1 : Nat) : Int) (s.size : Int) := by rw [mn_nat]; omega
      have h1 : mn ((pc false (B s) + 1 : Nat) : Int) (s.size : Int) ≤ (s.size : Int) := by rw [mn_nat]; omega
      have cut := pieces_cut (B s)
      have eT : head_Trim.f (s.extract 0 ((pc false (B s) : Nat) : Int).toNat) = some (mk (tr ((B s).take (pc false (B s))))) := by
        rw [Trim_ok _ (by rw [size_B, B_to]; have := List.length_take_le (pc false (B s)) (B s); simp only [Int.toNat_natCast] at *; rw [← size_B] at *; omega), B_to, Int.toNat_natCast]
      have hrest : B (s.extract (min (pc false (B s) + 1) s.size) s.size) = (B s).drop (min (pc false (B s) + 1) (B s).length) := by rw [B_from, ← size_B]
      have hsz : (s.extract (min (pc false (B s) + 1) s.size) s.size).size = s.size - min (pc false (B s) + 1) s.size := by rw [size_B, B_from, List.length_drop, ← size_B]
      refine Ev.neg hne (Ev.bind (piece_ok s hs) (Ev.pos (by omega) (Ev.pos (by omega) (Ev.bnd eT ?_))))
      rw [w1, e1]
      obtain ⟨n, rfl⟩ : ∃ m, n = m + 1 := ⟨n - 1, by omega⟩
      by_cases hz : tr ((B s).take (pc false (B s))) = []
      · refine Ev.pos (by rw [toList_B, B_mk, hz]) (Ev.pos h0 (Ev.pos h1 ?_))
        refine split_one v m j bd hbd n _ acc (by rw [hsz]; omega) (by rw [hsz]; omega) (by rw [hsz]; omega) ?_
        rw [hrest]
        rw [cut, one, if_pos hz, List.nil_append] at hr
        exact hr
      · refine Ev.neg (by rw [toList_B, B_mk]; exact hz) (Ev.pos (by omega) (Ev.pos h0 (Ev.pos h1 ?_)))
        refine split_one v m j bd hbd n _ _ (by rw [hsz]; omega) (by rw [hsz]; omega) (by rw [hsz]; simp only [List.length_append, List.length_cons, List.length_nil]; omega) ?_
        rw [hrest]
        rw [cut, one, if_neg hz] at hr
        simpa using hr
theorem split_loop (v : List ByteArray) (hv : v.length ≤ 1000000) (hb : ∀ s ∈ v, s.size ≤ 1100000) : ∀ (l : List ByteArray) (i : Nat) (acc : List ByteArray), v.drop i = l → acc.length ≤ 1100001 * i → i + l.length ≤ 400 →
    Ev (fun k => head_Split.l0 k acc v (v.length : Int) (i : Int)) (acc ++ (splits l).map mk)
  | [], i, acc, hl, ha, hi => by
    have := drop_nil hl
    refine Ev.step (fun _ => head_Split.l0.eq_2 ..) (Ev.neg (by omega) (Ev.konst ?_))
    simp [splits]
  | s :: t, i, acc, hl, ha, hi => by
    obtain ⟨h1, h2, h3⟩ := drop_cons hl
    have hs := hb s (List.mem_of_getElem? h2)
    have hp := pieces_len (B s).length (B s) (Nat.le_refl _)
    rw [← size_B] at hp
    simp only [List.length_cons] at hi
    refine Ev.step (fun _ => head_Split.l0.eq_2 ..) (Ev.pos (by omega) (Ev.pos (by omega) (Ev.pos (by omega) ?_)))
    rw [rdOf_of h2]
    refine split_one v _ _ 1000000000 (Nat.le_refl _) s.size s acc (Nat.le_refl _) (by omega) (by omega) ?_
    rw [wrap_id (by omega) (by omega), cast_succ]
    have hl' : (acc ++ (pieces (B s)).map mk).length ≤ 1100001 * (i + 1) := by rw [List.length_append, List.length_map]; omega
    have := split_loop v hv hb t (i + 1) _ h3 hl' (by omega)
    simpa [splits] using this
theorem sum_size : ∀ (l : List ByteArray), l.length ≤ (l.map fun y => (y.size + 1)).sum ∧ ∀ s ∈ l, s.size + 1 ≤ (l.map fun y => (y.size + 1)).sum
  | [] => by simp
  | x :: t => by
    obtain ⟨h1, h2⟩ := sum_size t
    simp only [List.map_cons, List.sum_cons, List.length_cons]
    refine ⟨by omega, fun s hs => ?_⟩
    rcases List.mem_cons.1 hs with rfl | hs
    · omega
    · have := h2 s hs; omega
theorem pieces_small : ∀ (n : Nat) (l : List UInt8), l.length ≤ n → ∀ x ∈ pieces l, x.length ≤ l.length
  | 0, l, h => by
    have : l = [] := by cases l <;> simp_all
    subst this; rw [pieces_nil]; simp
  | n + 1, l, h => by
    intro x hx
    rw [pieces_pc l] at hx
    rcases List.mem_append.1 hx with hx | hx
    · unfold one at hx
      split at hx
      · simp at hx
      · have e : x = tr (l.take (pc false l)) := by simpa using hx
        have h1 := tr_len (l.take (pc false l))
        have h2 := List.length_take_le (pc false l) l
        have h3 := pc_le l false
        rw [e]
        rw [List.length_take] at h1 h2
        omega
    · split at hx
      · have := pieces_small n (l.drop (pc false l + 1)) (by rw [List.length_drop]; omega) x hx
        rw [List.length_drop] at this; omega
      · simp at hx
theorem splits_small (v : List ByteArray) (hb : ∀ s ∈ v, s.size ≤ 1048576) : ∀ x ∈ splits v, x.length ≤ 1048576 := by
  intro x hx
  obtain ⟨s, hs, hx⟩ := List.mem_flatMap.1 hx
  have h1 := pieces_small _ (B s) (Nat.le_refl _) x hx
  have h2 := hb s hs
  rw [size_B] at h2; omega
theorem splits_few : ∀ (v : List ByteArray), (splits v).length ≤ (v.map fun y => (y.size + 1)).sum
  | [] => by simp [splits]
  | s :: t => by
    have h1 := splits_few t
    have h2 := pieces_len (B s).length (B s) (Nat.le_refl _)
    rw [← size_B] at h2
    simp only [splits, List.flatMap_cons, List.length_append, List.map_cons, List.sum_cons] at h1 ⊢
    omega
/-- Where a beginning of the first piece is cut: at its end. -/
theorem pc_take : ∀ (l : List UInt8) (q : Bool) (k : Nat), k ≤ pc q l → pc q (l.take k) = k
  | l, q, 0, _ => by rw [List.take_zero]; rfl
  | [], q, k + 1, h => by
    have : pc q [] = 0 := rfl
    omega
  | c :: t, q, k + 1, h => by
    rw [List.take_succ_cons, pc_cons]
    rw [pc_cons] at h
    by_cases h1 : c = 34
    · rw [if_pos h1] at h ⊢
      rw [pc_take t (!q) k (by omega)]; omega
    · rw [if_neg h1] at h ⊢
      by_cases h2 : q = true ∧ c = 92
      · rw [if_pos h2] at h ⊢
        cases t with
        | nil =>
          simp only at h
          have : k = 0 := by omega
          subst this; rfl
        | cons d u =>
          simp only at h
          cases k with
          | zero => rfl
          | succ k' =>
            rw [List.take_succ_cons]
            simp only
            rw [pc_take u q k' (by omega)]; omega
      · rw [if_neg h2] at h ⊢
        by_cases h3 : c = 44 ∧ q = false
        · rw [if_pos h3] at h; omega
        · rw [if_neg h3] at h ⊢
          rw [pc_take t q k (by omega)]; omega
/-- No comma outside of quotes. -/
def nc (l : List UInt8) : Prop := pc false l = l.length
theorem nc_take {l : List UInt8} (h : nc l) (k : Nat) : nc (l.take k) := by
  unfold nc at *
  have := pc_take l false (min k l.length) (by omega)
  rw [List.length_take]
  rw [← List.take_eq_take_min] at this
  exact this
theorem nc_dropWhile : ∀ {l : List UInt8}, nc l → nc (l.dropWhile blank)
  | [], h => h
  | c :: t, h => by
    rw [List.dropWhile_cons]
    by_cases hb : blank c = true
    · rw [if_pos hb]
      have hc : c = 32 ∨ c = 9 := by
        have : ([32, 9] : List UInt8).contains c = true := hb
        simpa using this
      refine nc_dropWhile ?_
      unfold nc at h ⊢
      rw [pc_cons, if_neg (by rcases hc with rfl | rfl <;> decide), if_neg (by simp), if_neg (by rcases hc with rfl | rfl <;> decide), List.length_cons] at h
      omega
    · rw [if_neg hb]; exact h
theorem rdw_take (p : UInt8 → Bool) (l : List UInt8) : ∃ k, rdw p l = l.take k := by
  have h : rdw p l <+: l := by
    have := List.dropWhile_suffix p (l := l.reverse)
    have h2 := List.reverse_prefix.2 this
    rw [List.reverse_reverse] at h2
    exact h2
  exact ⟨_, List.prefix_iff_eq_take.1 h⟩
theorem nc_tr {l : List UInt8} (h : nc l) : nc (tr l) := by
  rw [tr_eq]
  obtain ⟨k, e⟩ := rdw_take blank (l.dropWhile blank)
  rw [e]
  exact nc_take (nc_dropWhile h) k
theorem tr_mem {l : List UInt8} {c : UInt8} (h : c ∈ tr l) : c ∈ l := by
  rw [tr_eq] at h
  obtain ⟨k, e⟩ := rdw_take blank (l.dropWhile blank)
  rw [e] at h
  exact (List.dropWhile_sublist blank).subset (List.mem_of_mem_take h)
theorem pieces_good : ∀ (n : Nat) (l : List UInt8), l.length ≤ n → ∀ x ∈ pieces l, nc x ∧ x ≠ [] ∧ tr x = x ∧ ∀ c ∈ x, c ∈ l
  | 0, l, h => by
    have : l = [] := by cases l <;> simp_all
    subst this; rw [pieces_nil]; simp
  | n + 1, l, h => by
    intro x hx
    rw [pieces_pc l] at hx
    rcases List.mem_append.1 hx with hx | hx
    · unfold one at hx
      split at hx
      · simp at hx
      · rename_i hne
        have e : x = tr (l.take (pc false l)) := by simpa using hx
        have hchunk : nc (l.take (pc false l)) := by
          unfold nc
          rw [pc_take l false _ (Nat.le_refl _), List.length_take]
          have := pc_le l false
          omega
        rw [e]
        exact ⟨nc_tr hchunk, hne, tr_tr _, fun c hc => List.mem_of_mem_take (tr_mem hc)⟩
    · split at hx
      · obtain ⟨h1, h2, h3, h4⟩ := pieces_good n (l.drop (pc false l + 1)) (by rw [List.length_drop]; omega) x hx
        exact ⟨h1, h2, h3, fun c hc => List.mem_of_mem_drop (h4 c hc)⟩
      · simp at hx
theorem pieces_self {x : List UInt8} (h1 : nc x) (h2 : x ≠ []) (h3 : tr x = x) : pieces x = [x] := by
  rw [pieces_pc x]
  unfold nc at h1
  rw [h1, List.take_length, if_neg (by omega), List.append_nil, one, if_neg (by rw [h3]; exact h2), h3]
theorem nc_comma : ∀ {x : List UInt8}, nc x → (34 : UInt8) ∉ x → (44 : UInt8) ∉ x
  | [], _, _ => by simp
  | c :: t, h, hq => by
    have hc : c ≠ 34 := fun e => hq (by rw [e]; simp)
    unfold nc at h
    rw [pc_cons, if_neg hc, if_neg (by simp)] at h
    by_cases h44 : c = 44
    · rw [if_pos ⟨h44, rfl⟩, List.length_cons] at h; omega
    · rw [if_neg (fun z => h44 z.1), List.length_cons] at h
      have ih := nc_comma (x := t) (by unfold nc; omega) (fun z => hq (by simp [z]))
      intro hm
      rcases List.mem_cons.1 hm with e | hm
      · exact h44 e.symm
      · exact ih hm
theorem split_self (v : List ByteArray) (hv : v.length ≤ 1200000) (hb : ∀ s ∈ v, s.size ≤ 1100000) (hp : ∀ s ∈ v, pieces (B s) = [B s]) : ∀ (l : List ByteArray) (i : Nat) (acc : List ByteArray), v.drop i = l → acc.length ≤ i →
    Ev (fun k => head_Split.l0 k acc v (v.length : Int) (i : Int)) (acc ++ l)
  | [], i, acc, hl, ha => by
    have := drop_nil hl
    refine Ev.step (fun _ => head_Split.l0.eq_2 ..) (Ev.neg (by omega) (Ev.konst ?_))
    simp
  | s :: t, i, acc, hl, ha => by
    obtain ⟨h1, h2, h3⟩ := drop_cons hl
    have hm := List.mem_of_getElem? h2
    have hs := hb s hm
    refine Ev.step (fun _ => head_Split.l0.eq_2 ..) (Ev.pos (by omega) (Ev.pos (by omega) (Ev.pos (by omega) ?_)))
    rw [rdOf_of h2]
    refine split_one v _ _ 1000000000 (Nat.le_refl _) s.size s acc (Nat.le_refl _) (by omega) (by omega) ?_
    rw [wrap_id (by omega) (by omega), cast_succ, hp s hm]
    have := split_self v hv hb hp t (i + 1) (acc ++ [s]) h3 (by rw [List.length_append, List.length_singleton]; omega)
    rw [List.map_cons, List.map_nil, mk_B]
    rw [List.append_assoc, List.singleton_append] at this
    exact this
theorem among_loop (s : ByteArray) (hs : s.size ≤ 1000000000) (c : UInt8) : ∀ (t : List UInt8) (i : Nat), (B s).drop i = t → Ev (fun k => sprlaw13_among.l0 k s (c.toNat : Int) (i : Int)) (t.contains c)
  | [], i, ht => by
    have := end_drop ht
    exact Ev.step (fun _ => sprlaw13_among.l0.eq_2 ..) (Ev.neg (by omega) (Ev.now _))
  | x :: t, i, ht => by
    obtain ⟨a1, a2, a3⟩ := bt_drop ht
    refine Ev.step (fun _ => sprlaw13_among.l0.eq_2 ..) (Ev.pos (by omega) (Ev.pos (by omega) ?_))
    rw [a1, wrap_id (by omega) (by omega), cast_succ]
    by_cases h : x = c
    · refine Ev.pos (by rw [h]) ?_
      rw [h]; simp; exact Ev.now _
    · have h' : ¬ (x.toNat : Int) = (c.toNat : Int) := fun e => h (UInt8.toNat_inj.1 (by omega))
      refine Ev.neg h' ?_
      have e : (x :: t).contains c = t.contains c := by
        rw [List.contains_cons]
        have : (c == x) = false := beq_eq_false_iff_ne.2 (fun e => h e.symm)
        rw [this, Bool.false_or]
      rw [e]; exact among_loop s hs c t (i + 1) a3
theorem pieces_l1 (L : List ByteArray) (q : Bool) (hL : L.length ≤ 1200000) (hb : ∀ s ∈ L, s.size ≤ 1100000) (hp : ∀ s ∈ L, nc (B s) ∧ B s ≠ [] ∧ tr (B s) = B s) (hq : q = false → ∀ s ∈ L, (44 : UInt8) ∉ B s) : ∀ (t : List ByteArray) (i : Nat), L.drop i = t → Ev (fun k => sprlaw13_HeadPieces.l1 k L q (i : Int)) true
  | [], i, ht => by
    have := drop_nil ht
    have hS : Ev (fun k => head_Split.f k L) L := by
      have := split_self L hL hb (fun s hs => pieces_self (hp s hs).1 (hp s hs).2.1 (hp s hs).2.2) L 0 [] rfl (Nat.le_refl 0)
      rw [List.nil_append] at this
      exact this
    have hT : Ev (fun k => sprref_Texts.f k L L) true := by
      have := Texts_ok L L (by omega)
      simpa using this
    exact Ev.step (fun _ => sprlaw13_HeadPieces.l1.eq_2 ..) (Ev.neg (by omega) (Ev.bind first_ok (Ev.pos rfl (Ev.bind hS (Ev.bind hT (Ev.now _))))))
  | x :: t, i, ht => by
    obtain ⟨a1, a2, a3⟩ := drop_cons ht
    have hm := List.mem_of_getElem? a2
    obtain ⟨p1, p2, p3⟩ := hp x hm
    have hs := hb x hm
    have ih := pieces_l1 L q hL hb hp hq t (i + 1) a3
    refine Ev.step (fun _ => sprlaw13_HeadPieces.l1.eq_2 ..) (Ev.pos (by omega) (Ev.pos (by omega) ?_))
    rw [rdOf_of a2, toList_B, wrap_id (by omega) (by omega), cast_succ]
    refine Ev.neg p2 (Ev.bnd (Trim_ok x (by omega)) (Ev.pos (by rw [toList_B, B_mk, p3]) ?_))
    cases hqq : q with
    | true => rw [hqq] at ih; exact Ev.pos rfl ih
    | false =>
      refine Ev.neg (by simp) (Ev.bind (among_loop x (by omega) 44 (B x) 0 rfl) ?_)
      have : (B x).contains 44 = false := by
        rw [Bool.eq_false_iff]
        intro h
        exact hq hqq x hm (by simpa using h)
      rw [this]
      rw [hqq] at ih
      exact Ev.neg (by simp) ih
theorem pieces_l0 (v : List ByteArray) (L : List ByteArray) (hv : v.length ≤ 1000000) (hvb : ∀ s ∈ v, s.size ≤ 1000000000) (hL : L.length ≤ 1200000) (hb : ∀ s ∈ L, s.size ≤ 1100000) (hp : ∀ s ∈ L, nc (B s) ∧ B s ≠ [] ∧ tr (B s) = B s) (hq : (∀ s ∈ v, (34 : UInt8) ∉ B s) → ∀ s ∈ L, (44 : UInt8) ∉ B s) : ∀ (t : List ByteArray) (i : Nat) (q : Bool), v.drop i = t → (q = false → ∀ s ∈ v.take i, (34 : UInt8) ∉ B s) → Ev (fun k => sprlaw13_HeadPieces.l0 k v L q (i : Int)) true
  | [], i, q, ht, h => by
    have := drop_nil ht
    rw [List.take_of_length_le (by omega)] at h
    exact Ev.step (fun _ => sprlaw13_HeadPieces.l0.eq_2 ..) (Ev.neg (by omega) (pieces_l1 L q hL hb hp (fun e => hq (h e)) L 0 rfl))
  | x :: t, i, q, ht, h => by
    obtain ⟨a1, a2, a3⟩ := drop_cons ht
    have hm := List.mem_of_getElem? a2
    have htk : v.take (i + 1) = v.take i ++ [x] := by rw [List.take_add_one, a2]; rfl
    refine Ev.step (fun _ => sprlaw13_HeadPieces.l0.eq_2 ..) (Ev.pos (by omega) ?_)
    rw [rdOf_of a2, wrap_id (by omega) (by omega), cast_succ]
    cases hqq : q with
    | true => exact Ev.pos rfl (pieces_l0 v L hv hvb hL hb hp hq t (i + 1) true a3 (fun e => by cases e))
    | false =>
      refine Ev.neg (by simp) (Ev.pos (by omega) (Ev.bind (among_loop x (hvb x hm) 34 (B x) 0 rfl) ?_))
      refine pieces_l0 v L hv hvb hL hb hp hq t (i + 1) _ a3 (fun e s hs => ?_)
      rw [htk] at hs
      rcases List.mem_append.1 hs with hs | hs
      · exact h hqq s hs
      · rw [List.mem_singleton.1 hs]
        intro hc
        have : (B x).contains 34 = true := by simpa using hc
        rw [this] at e; cases e
theorem HeadPieces (v : List ByteArray) (g0 : v.length ≤ maxLen ∧ ∀ x ∈ v, x.size ≤ maxLen) (hk : ((v.map fun y => (y.size + 1)).sum + 1) ≤ 1048576) : ∃ k, sprlaw13_HeadPieces.f k v = some true := by
  obtain ⟨hv1, hv2⟩ := sum_size v
  refine Ev.rounds ?_
  unfold sprlaw13_HeadPieces.f
  refine Ev.bind first_ok (Ev.pos rfl ?_)
  obtain ⟨b0, hb0, hf0⟩ := texts_ok v
  refine Ev.bind hb0 ?_
  by_cases e0 : b0 = false
  · exact Ev.neg (by rw [e0]; simp) (Ev.bind first_ok (Ev.now _))
  have e0' : b0 = true := by cases b0 <;> simp_all
  have l0 := hf0 e0'
  refine Ev.pos e0' ?_
  have hS : Ev (fun k => head_Split.f k v) ((splits v).map mk) := by
    have := split_loop v (by omega) (fun s hs => by have := hv2 s hs; omega) v 0 [] rfl (by simp) (by omega)
    rw [List.nil_append] at this
    exact this
  refine Ev.bind hS ?_
  have hfew := splits_few v
  have hsm := splits_small v (fun s hs => by have := hv2 s hs; omega)
  have hgood : ∀ s ∈ (splits v).map mk, ∃ y ∈ v, nc (B s) ∧ B s ≠ [] ∧ tr (B s) = B s ∧ ∀ c ∈ B s, c ∈ B y := by
    intro s hs
    obtain ⟨x, hx, rfl⟩ := List.mem_map.1 hs
    obtain ⟨y, hy, hx⟩ := List.mem_flatMap.1 hx
    exact ⟨y, hy, pieces_good _ (B y) (Nat.le_refl _) x hx⟩
  refine pieces_l0 v ((splits v).map mk) (by omega) (fun s hs => by have := hv2 s hs; omega) (by rw [List.length_map]; omega) (fun s hs => by
    obtain ⟨x, hx, rfl⟩ := List.mem_map.1 hs
    have := hsm x hx
    rw [size_B, B_mk]; omega) (fun s hs => by obtain ⟨y, _, h1, h2, h3, _⟩ := hgood s hs; exact ⟨h1, h2, h3⟩) (fun hq s hs => by
    obtain ⟨y, hy, h1, h2, h3, h4⟩ := hgood s hs
    exact nc_comma h1 (fun hm => hq y hy (h4 _ hm))) v 0 false rfl (fun _ s hs => by simp at hs)

end Go.Proofs.YtmcjmmdejgoamaaDoor.Pure
