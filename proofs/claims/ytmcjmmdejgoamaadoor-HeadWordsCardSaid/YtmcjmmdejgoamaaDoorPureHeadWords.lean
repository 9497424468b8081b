/-
The law HeadWords: a name, a value, small letters, trimmed; may lines be: by the program and by the reference the same. No conditions beside those of the statement.
-/
import Derived.Test.YtmcjmmdejgoamaaDoorQ11
import Derived.Lib.IndexAny
set_option linter.unusedVariables false
set_option linter.unusedSimpArgs false
namespace Go.Proofs.YtmcjmmdejgoamaaDoor.Pure
open Go.RowKit Go.Proofs.YtmcjmmdejgoamaaDoor.Q Go.Proofs.YtmcjmmdejgoamaaDoorW.PrintWords Go.Proofs.YtmcjmmdejgoamaaDoorW.PrintLast
theorem wrap_id {x : Int} (h0 : -9223372036854775808 ≤ x) (h1 : x ≤ 9223372036854775807) : wrap64 x = x := by unfold wrap64; omega
theorem Ev.succ {α : Type} {g : Nat → Option α} {r : α} (h : Ev (fun k => g (k + 1)) r) : Ev g r := Ev.step (fun _ => rfl) h
theorem Ev.konst {α : Type} {o : Option α} {r : α} (h : o = some r) : Ev (fun _ => o) r := ⟨0, fun _ _ => h⟩
theorem Ev.at {α : Type} {g : Nat → Option α} {r : α} (K : Nat) (h : ∀ k, g (k + K) = some r) : Ev g r := ⟨K, fun n hn => by
  obtain ⟨m, rfl⟩ : ∃ m, n = m + K := ⟨n - K, by omega⟩
  exact h m⟩
theorem drop_cons {α : Type} {l : List α} {i : Nat} {c : α} {t : List α} (h : l.drop i = c :: t) : i < l.length ∧ l[i]? = some c ∧ l.drop (i + 1) = t := by
  have h1 : (l.drop i)[0]? = some c := by rw [h]; rfl
  rw [List.getElem?_drop] at h1
  simp only [Nat.add_zero] at h1
  refine ⟨(List.getElem?_eq_some_iff.1 h1).1, h1, ?_⟩
  rw [← List.drop_drop, h]; rfl
theorem drop_nil {α : Type} {l : List α} {i : Nat} (h : l.drop i = []) : l.length ≤ i := by
  simpa using h
theorem rd_of {l : List Int} {i : Nat} {c : Int} (h : l[i]? = some c) : rd l (i : Int) = c := by
  unfold rd; rw [Int.toNat_natCast, List.getD_eq_getElem?_getD, h]; rfl
theorem rdOf_of {α : Type} {d : α} {l : List α} {i : Nat} {c : α} (h : l[i]? = some c) : rdOf d l (i : Int) = c := by
  unfold rdOf; rw [Int.toNat_natCast, List.getD_eq_getElem?_getD, h]; rfl
theorem cast_succ (i : Nat) : ((i : Int) + 1) = ((i + 1 : Nat) : Int) := by omega
theorem Ev.pos {α : Type} {c : Prop} [Decidable c] {A B : Nat → Option α} {r : α} (h : c) (k : Ev A r) : Ev (fun n => if c then A n else B n) r := Ev.congr (fun _ => if_pos h) k
theorem Ev.neg {α : Type} {c : Prop} [Decidable c] {A B : Nat → Option α} {r : α} (h : ¬ c) (k : Ev B r) : Ev (fun n => if c then A n else B n) r := Ev.congr (fun _ => if_neg h) k
theorem Ev.bnd {α β : Type} {o : Option β} {a : β} {f : Nat → β → Option α} {r : α} (h : o = some a) (k : Ev (fun n => f n a) r) : Ev (fun n => o.bind (f n)) r := by
  subst h; exact k
/-- A text's bytes. -/
def B (s : ByteArray) : List UInt8 := s.data.toList
def mk (l : List UInt8) : ByteArray := ⟨l.toArray⟩
theorem B_mk (l : List UInt8) : B (mk l) = l := rfl
theorem mk_B (s : ByteArray) : mk (B s) = s := rfl
theorem B_inj {s t : ByteArray} (h : B s = B t) : s = t := by rw [← mk_B s, ← mk_B t, h]
theorem toList_B (s : ByteArray) : s.toList = B s := Lib.toList_data s
theorem size_B (s : ByteArray) : s.size = (B s).length := Lib.size_eq s
theorem B_extract (s : ByteArray) (a b : Nat) : B (s.extract a b) = ((B s).drop a).take (b - a) := Lib.extract_data s a b
theorem B_append (s t : ByteArray) : B (s ++ t) = B s ++ B t := by
  unfold B
  rw [ByteArray.data_append, Array.toList_append]
theorem B_to (s : ByteArray) (n : Nat) : B (s.extract 0 n) = (B s).take n := by rw [B_extract, List.drop_zero, Nat.sub_zero]
theorem B_from (s : ByteArray) (n : Nat) : B (s.extract n s.size) = (B s).drop n := by
  rw [B_extract, size_B]
  exact List.take_of_length_le (by rw [List.length_drop]; omega)
theorem bt_of {s : ByteArray} {i : Nat} {c : UInt8} (h : (B s)[i]? = some c) : bt s (i : Int) = (c.toNat : Int) := by
  unfold bt
  have hi : i < s.size := by rw [size_B]; exact (List.getElem?_eq_some_iff.1 h).1
  rw [Int.toNat_natCast, dif_pos hi]
  have : (s[i]'hi) = c := by
    have h1 : (B s)[i]? = some (s[i]'hi) := by
      unfold B
      rw [Array.getElem?_toList]
      exact Array.getElem?_eq_getElem _
    rw [h1] at h
    exact Option.some.inj h
  rw [this]
/-- The byte that a suffix begins with. -/
theorem bt_drop {s : ByteArray} {i : Nat} {c : UInt8} {t : List UInt8} (h : (B s).drop i = c :: t) : bt s (i : Int) = (c.toNat : Int) ∧ i < s.size ∧ (B s).drop (i + 1) = t := by
  obtain ⟨h1, h2, h3⟩ := drop_cons h
  exact ⟨bt_of h2, by rw [size_B]; exact h1, h3⟩
theorem end_drop {s : ByteArray} {i : Nat} (h : (B s).drop i = []) : s.size ≤ i := by rw [size_B]; exact drop_nil h
theorem u8_eq (c : UInt8) (n : Nat) (h : n < 256) : ((c.toNat : Int) = (n : Int)) ↔ c = UInt8.ofNat n := by
  constructor
  · intro e
    have e' : c.toNat = n := by omega
    rw [← e']; exact (UInt8.ofNat_toNat).symm
  · intro e
    rw [e, UInt8.toNat_ofNat']
    have : n % 2 ^ 8 = n := Nat.mod_eq_of_lt h
    omega
theorem u8_lt (c : UInt8) : (c.toNat : Int) < 256 ∧ 0 ≤ (c.toNat : Int) := by
  have := UInt8.toNat_lt c
  omega
/-! names in small letters -/
theorem lowb_low (c : UInt8) : Own.lowb (Own.lowb c) = Own.lowb c := by
  by_cases h : 65 ≤ c.toNat ∧ c.toNat ≤ 90
  · have e : Own.lowb c = c + 32 := by unfold Own.lowb; rw [if_pos h]
    have h2 : (c + 32).toNat = c.toNat + 32 := by
      rw [UInt8.toNat_add]
      show (c.toNat + 32) % 256 = _
      omega
    rw [e]
    unfold Own.lowb
    rw [if_neg (by omega)]
  · have e : Own.lowb c = c := by unfold Own.lowb; rw [if_neg h]
    rw [e, e]
theorem low_low (s : ByteArray) : Own.low (Own.low s) = Own.low s := by
  apply B_inj
  show ((s.data.toList.map Own.lowb).map Own.lowb) = s.data.toList.map Own.lowb
  rw [List.map_map]
  congr 1
  funext c
  exact lowb_low c
theorem low_size (s : ByteArray) : (Own.low s).size = s.size := by
  rw [size_B, size_B s]
  show (s.data.toList.map Own.lowb).length = _
  rw [List.length_map]; rfl
theorem same_iff (a b : ByteArray) : Own.same a b = true ↔ Own.low a = Own.low b := by
  unfold Own.same
  rw [toList_B, toList_B, beq_iff_eq]
  exact ⟨B_inj, fun h => by rw [h]⟩
theorem same_congr {a a' b b' : ByteArray} (h1 : Own.low a = Own.low a') (h2 : Own.low b = Own.low b') : Own.same a b = Own.same a' b' := by
  rw [Bool.eq_iff_iff, same_iff, same_iff, h1, h2]
theorem same_low (a b : ByteArray) : Own.same a (Own.low b) = Own.same a b := same_congr rfl (low_low b)
theorem same_self (a : ByteArray) : Own.same a a = true := (same_iff a a).2 rfl
theorem okS_of {s : ByteArray} (h : s.size ≤ 9223372036854775807) : Own.okS s = true := decide_eq_true h
instance : DecidableEq S45 := fun a b => decidable_of_iff (a.f0 = b.f0 ∧ a.f1 = b.f1) ⟨fun h => by cases a; cases b; cases h.1; cases h.2; rfl, fun h => by rw [h]; exact ⟨rfl, rfl⟩⟩
/-- Lines that the form lets in. -/
def okL (l : List S45) : Prop := ∀ x ∈ l, x.f0.size ≤ 9223372036854775807 ∧ x.f1.size ≤ 9223372036854775807
theorem okL.all {l : List S45} (h : okL l) : (l.all fun x => Own.okS x.f0) = true := List.all_eq_true.2 fun x hx => okS_of (h x hx).1
theorem okL.filter {l : List S45} (h : okL l) (p : S45 → Bool) : okL (l.filter p) := fun x hx => h x (List.mem_filter.1 hx).1
theorem okL.append {l m : List S45} (h : okL l) (k : okL m) : okL (l ++ m) := fun x hx => (List.mem_append.1 hx).elim (h x) (k x)
theorem allOf_append (l m : List S45) (n : ByteArray) : allOf (l ++ m) n = allOf l n ++ allOf m n := by
  unfold allOf; rw [List.filter_append, List.map_append]
theorem allOf_nil_iff (l : List S45) (n : ByteArray) : allOf l n = [] ↔ ∀ x ∈ l, Own.same x.f0 n = false := by
  unfold allOf
  rw [List.map_eq_nil_iff, List.filter_eq_nil_iff]
  exact ⟨fun h x hx => by simpa using h x hx, fun h x hx => by simpa using h x hx⟩
theorem allOf_congr (l : List S45) {a b : ByteArray} (h : Own.low a = Own.low b) : allOf l a = allOf l b := by
  unfold allOf
  congr 2
  funext x
  exact same_congr rfl h
theorem allOf_len (l : List S45) (n : ByteArray) : (allOf l n).length ≤ l.length := by
  unfold allOf; rw [List.length_map]; exact List.length_filter_le _ _
theorem Texts_loop (a b : List ByteArray) (hl : a.length = b.length) (hb : a.length ≤ 1000000000) : ∀ (s t : List ByteArray) (i : Nat), a.drop i = s → b.drop i = t → Ev (fun k => sprref_Texts.l0 k a b i) (decide (s = t))
  | [], t, i, hs, ht => by
    have h1 := drop_nil hs
    have h2 : t = [] := by rw [← ht]; exact List.drop_eq_nil_of_le (by omega)
    subst h2
    exact Ev.step (fun _ => sprref_Texts.l0.eq_2 ..) (Ev.neg (by omega) (Ev.now _))
  | c :: s, [], i, hs, ht => by
    have h1 := drop_nil ht
    have h2 := drop_cons hs
    omega
  | c :: s, d :: t, i, hs, ht => by
    obtain ⟨h1, h2, h3⟩ := drop_cons hs
    obtain ⟨g1, g2, g3⟩ := drop_cons ht
    refine Ev.step (fun _ => sprref_Texts.l0.eq_2 ..) (Ev.pos (by omega) (Ev.pos (by omega) (Ev.pos (by omega) ?_)))
    rw [rdOf_of h2, rdOf_of g2, toList_B, toList_B]
    by_cases e : c = d
    · refine Ev.pos (by rw [e]) ?_
      rw [wrap_id (by omega) (by omega), cast_succ]
      have := Texts_loop a b hl hb s t (i + 1) h3 g3
      simpa [e] using this
    · refine Ev.neg (fun h => e (B_inj h)) ?_
      exact Ev.konst (by simp [e])
theorem Texts_ok (a b : List ByteArray) (hb : a.length ≤ 1000000000) : Ev (fun k => sprref_Texts.f k a b) (decide (a = b)) := by
  unfold sprref_Texts.f
  by_cases h : a.length = b.length
  · exact Ev.pos (by omega) (Texts_loop a b h hb a b 0 rfl rfl)
  · refine Ev.neg (by omega) (Ev.konst ?_)
    have : a ≠ b := fun e => h (by rw [e])
    simp [this]
theorem Lower_ok {s : ByteArray} (h : s.size ≤ 9223372036854775807) : head_Lower.f s = some (Own.low s) := by
  unfold head_Lower.f; rw [if_pos h]
theorem All_ok {l : List S45} (hl : l.length < 4398046511104) (ho : okL l) {n : ByteArray} (hn : n.size ≤ 9223372036854775807) : Ev (fun k => head_All.f k l n) (allOf l n) :=
  Ev.of (fun k => head_All.mono _ _ k) (head_All_is l n hl (okS_of hn) (fun x hx => okS_of (ho x hx).1))
theorem Fields_loop (a b : List S45) (hl : a.length = b.length) (hb : a.length ≤ 1000000000) : ∀ (s t : List S45) (i : Nat), a.drop i = s → b.drop i = t → Ev (fun k => sprref_Fields.l0 k a b (i : Int)) (decide (s = t))
  | [], t, i, h1, h2 => by
    have := drop_nil h1
    have e : t = [] := by rw [← h2]; exact List.drop_eq_nil_of_le (by omega)
    rw [e]
    exact Ev.step (fun _ => sprref_Fields.l0.eq_2 ..) (Ev.neg (by omega) (Ev.now _))
  | x :: s, [], i, h1, h2 => by
    have := drop_nil h2
    have := (drop_cons h1).1
    omega
  | x :: s, y :: t, i, h1, h2 => by
    obtain ⟨a1, a2, a3⟩ := drop_cons h1
    obtain ⟨b1, b2, b3⟩ := drop_cons h2
    have r1 : rd_T45 a (i : Int) = x := by unfold rd_T45; rw [Int.toNat_natCast, List.getD_eq_getElem?_getD, a2]; rfl
    have r2 : rd_T45 b (i : Int) = y := by unfold rd_T45; rw [Int.toNat_natCast, List.getD_eq_getElem?_getD, b2]; rfl
    refine Ev.step (fun _ => sprref_Fields.l0.eq_2 ..) (Ev.pos (by omega) (Ev.pos (by omega) (Ev.pos (by omega) ?_)))
    rw [r1, r2, toList_B, toList_B, toList_B, toList_B]
    by_cases e0 : x.f0 = y.f0
    · refine Ev.pos (by rw [e0]) ?_
      by_cases e1 : x.f1 = y.f1
      · refine Ev.pos (by rw [e1]) ?_
        rw [wrap_id (by omega) (by omega), cast_succ]
        have e : x = y := by cases x; cases y; cases e0; cases e1; rfl
        have ih := Fields_loop a b hl hb s t (i + 1) a3 b3
        have e2 : decide (x :: s = y :: t) = decide (s = t) := by rw [e]; simp
        rw [e2]; exact ih
      · refine Ev.neg (fun h => e1 (B_inj h)) ?_
        rw [decide_eq_false (fun h => e1 (by rw [(List.cons.inj h).1]))]; exact Ev.now _
    · refine Ev.neg (fun h => e0 (B_inj h)) ?_
      rw [decide_eq_false (fun h => e0 (by rw [(List.cons.inj h).1]))]; exact Ev.now _
theorem Fields_ok (a b : List S45) (hb : a.length ≤ 1000000000) : Ev (fun k => sprref_Fields.f k a b) (decide (a = b)) := by
  unfold sprref_Fields.f
  by_cases h : a.length = b.length
  · exact Ev.pos (by omega) (Fields_loop a b h hb a b 0 rfl rfl)
  · refine Ev.neg (by omega) ?_
    rw [decide_eq_false (fun e => h (by rw [e]))]; exact Ev.now _
/-- Few lines: at most 80. -/
theorem Few_loop (l : List S45) : ∀ (t : List S45) (i : Nat) (n : Int), l.drop i = t → 0 ≤ n → n ≤ 80000 → i ≤ 80 → ∃ b, Ev (fun k => sprlaw13_Few.l0 k l n (i : Int)) b ∧ (b = true → l.length ≤ 80)
  | [], i, n, h, h0, h1, hi => by
    have := drop_nil h
    by_cases hl : l.length ≤ 80
    · exact ⟨_, Ev.step (fun _ => sprlaw13_Few.l0.eq_2 ..) (Ev.neg (by omega) (Ev.pos (by omega) (Ev.now _))), fun _ => hl⟩
    · exact ⟨false, Ev.step (fun _ => sprlaw13_Few.l0.eq_2 ..) (Ev.neg (by omega) (Ev.neg (by omega) (Ev.now _))), fun h => by cases h⟩
  | x :: t, i, n, h, h0, h1, hi => by
    obtain ⟨a1, a2, a3⟩ := drop_cons h
    by_cases h80 : i < 80
    · have mn2 : ∀ a b : Int, mn a b ≤ b ∧ (0 ≤ a → 0 ≤ b → 0 ≤ mn a b) := by intro a b; unfold mn; split <;> omega
      obtain ⟨b, hb, hf⟩ := Few_loop l t (i + 1) (mn (wrap64 ((wrap64 (n + (mn (((rd_T45 l (i : Int)).f0).size : Int) 20000))) + (mn (((rd_T45 l (i : Int)).f1).size : Int) 20000))) 80000) a3 (by
        have q1 := mn2 (((rd_T45 l (i : Int)).f0).size : Int) 20000
        have q2 := mn2 (((rd_T45 l (i : Int)).f1).size : Int) 20000
        have q3 := q1.2 (by omega) (by omega)
        have q4 := q2.2 (by omega) (by omega)
        rw [wrap_id (x := n + _) (by omega) (by omega), wrap_id (by omega) (by omega)]
        exact (mn2 _ _).2 (by omega) (by omega)) ((mn2 _ _).1) (by omega)
      refine ⟨b, Ev.step (fun _ => sprlaw13_Few.l0.eq_2 ..) (Ev.pos (by omega) (Ev.pos (by omega) (Ev.pos (by omega) ?_))), hf⟩
      rw [wrap_id (x := (i : Int) + 1) (by omega) (by omega), cast_succ]
      exact hb
    · refine ⟨false, Ev.step (fun _ => sprlaw13_Few.l0.eq_2 ..) (Ev.pos (by omega) (Ev.neg (by omega) (Ev.neg (by omega) (Ev.now _)))), fun h => by cases h⟩
theorem Few_ok (l : List S45) : ∃ b, Ev (fun k => sprlaw13_Few.f k l) b ∧ (b = true → l.length ≤ 80) := Few_loop l l 0 0 rfl (by omega) (by omega) (by omega)
theorem first_ok : Ev (fun k => sprlaw13_first.f k) true := Ev.of (fun k => sprlaw13_first.mono k) (k := 60) (by kernel_rfl)
def blank (c : UInt8) : Bool := ([32, 9] : List UInt8).contains c
/-- Blanks and tabs at both ends away. -/
def tr (l : List UInt8) : List UInt8 := Lib.trimS l [32, 9]
def rdw (p : UInt8 → Bool) (l : List UInt8) : List UInt8 := (l.reverse.dropWhile p).reverse
theorem rdw_cons (p : UInt8 → Bool) (x : UInt8) (t : List UInt8) : rdw p (x :: t) = if rdw p t = [] then (if p x = true then [] else [x]) else x :: rdw p t := by
  unfold rdw
  rw [List.reverse_cons, List.dropWhile_append]
  by_cases h : (t.reverse.dropWhile p) = []
  · rw [h]
    by_cases hx : p x = true <;> simp [hx, List.dropWhile]
  · have h' : ¬ (t.reverse.dropWhile p).reverse = [] := fun e => h (List.reverse_eq_nil_iff.1 e)
    rw [if_neg h', if_neg (by simpa using h)]
    simp
theorem rdw_comm (p : UInt8 → Bool) : ∀ l : List UInt8, (rdw p l).dropWhile p = rdw p (l.dropWhile p)
  | [] => rfl
  | x :: t => by
    have ih := rdw_comm p t
    by_cases hx : p x = true
    · rw [List.dropWhile_cons, if_pos hx, ← ih, rdw_cons]
      by_cases h : rdw p t = []
      · rw [if_pos h, if_pos hx, h]
      · rw [if_neg h, List.dropWhile_cons, if_pos hx]
    · rw [List.dropWhile_cons, if_neg hx, rdw_cons]
      by_cases h : rdw p t = []
      · rw [if_pos h, if_neg hx, List.dropWhile_cons, if_neg hx]
      · rw [if_neg h, List.dropWhile_cons, if_neg hx]
theorem tr_eq (l : List UInt8) : tr l = rdw blank (l.dropWhile blank) := by
  rw [← rdw_comm]; rfl
theorem tr_nil : tr [] = [] := rfl
theorem length_dropWhile_le (p : UInt8 → Bool) : ∀ l : List UInt8, (l.dropWhile p).length ≤ l.length
  | [] => Nat.le_refl _
  | x :: t => by
    rw [List.dropWhile_cons]
    have := length_dropWhile_le p t
    split <;> simp only [List.length_cons] <;> omega
theorem tr_len (l : List UInt8) : (tr l).length ≤ l.length := by
  rw [tr_eq]
  unfold rdw
  have h1 := length_dropWhile_le blank (l.dropWhile blank).reverse
  have h2 := length_dropWhile_le blank l
  simp only [List.length_reverse] at h1 ⊢
  omega
/-- Nothing blank at the ends: it stays. -/
theorem dropWhile_idem (p : UInt8 → Bool) : ∀ l : List UInt8, (l.dropWhile p).dropWhile p = l.dropWhile p
  | [] => rfl
  | x :: t => by
    by_cases hx : p x = true
    · rw [List.dropWhile_cons, if_pos hx]; exact dropWhile_idem p t
    · rw [List.dropWhile_cons, if_neg hx, List.dropWhile_cons, if_neg hx]
theorem tr_tr (l : List UInt8) : tr (tr l) = tr l := by
  have e : ∀ m, tr m = (rdw blank m).dropWhile blank := fun m => by rw [tr_eq, rdw_comm]
  have r2 : ∀ m, rdw blank (rdw blank m) = rdw blank m := fun m => by unfold rdw; rw [List.reverse_reverse, dropWhile_idem]
  rw [e (tr l), tr_eq l, r2, rdw_comm, dropWhile_idem]
theorem Trim_ok (s : ByteArray) (h : s.size ≤ 9223372036854775807) : head_Trim.f s = some (mk (tr (B s))) := by
  unfold head_Trim.f strings_Trim.f
  rw [if_pos h, if_pos rfl]
  rfl
theorem rdw_snoc (p : UInt8 → Bool) (l : List UInt8) (c : UInt8) : rdw p (l ++ [c]) = if p c = true then rdw p l else l ++ [c] := by
  unfold rdw
  rw [List.reverse_append]
  by_cases h : p c = true
  · simp [h]
  · simp [h]
theorem blank_iff (c : UInt8) : blank c = true ↔ ((c.toNat : Int) = 32 ∨ (c.toNat : Int) = 9) := by
  rw [show (32 : Int) = ((32 : Nat) : Int) from rfl, show (9 : Int) = ((9 : Nat) : Int) from rfl, u8_eq c 32 (by omega), u8_eq c 9 (by omega)]
  unfold blank
  simp
theorem TrimR_l1 : ∀ (n : Nat) (s : ByteArray), s.size ≤ n → s.size ≤ 1000000000 → Ev (fun k => sprref12_Trim.l1 k s) (mk (rdw blank (B s)))
  | n, s, hn, hs => by
    refine Ev.step (fun _ => sprref12_Trim.l1.eq_2 ..) ?_
    rcases List.eq_nil_or_concat (B s) with he | ⟨l, c, he⟩
    · have h0 : s.size = 0 := by rw [size_B, he]; rfl
      refine Ev.neg (by omega) (Ev.konst ?_)
      rw [← mk_B s, he]; rfl
    · have hsz : s.size = l.length + 1 := by rw [size_B, he]; simp
      have w1 : wrap64 ((s.size : Int) - 1) = ((l.length : Nat) : Int) := by rw [wrap_id (by omega) (by omega)]; omega
      have hc : bt s ((l.length : Nat) : Int) = (c.toNat : Int) := bt_of (by rw [he]; simp)
      have hin : B (s.extract 0 l.length) = l := by rw [B_to, he]; simp
      have hl : (s.extract 0 l.length).size = l.length := by rw [size_B, hin]
      rw [w1, hc, he, List.concat_eq_append, rdw_snoc, Int.toNat_natCast]
      refine Ev.pos (by omega) (Ev.pos (by omega) (Ev.pos (by omega) ?_))
      obtain ⟨n, rfl⟩ : ∃ m, n = m + 1 := ⟨n - 1, by omega⟩
      by_cases h1 : (c.toNat : Int) = 32
      · rw [if_pos ((blank_iff c).2 (.inl h1))]
        refine Ev.pos h1 (Ev.pos (by omega) ?_)
        have := TrimR_l1 n (s.extract 0 l.length) (by omega) (by omega)
        rw [hin] at this; exact this
      · by_cases h2 : (c.toNat : Int) = 9
        · rw [if_pos ((blank_iff c).2 (.inr h2))]
          refine Ev.neg h1 (Ev.pos h2 (Ev.pos (by omega) ?_))
          have := TrimR_l1 n (s.extract 0 l.length) (by omega) (by omega)
          rw [hin] at this; exact this
        · rw [if_neg (fun h => ((blank_iff c).1 h).elim h1 h2)]
          refine Ev.neg h1 (Ev.neg h2 (Ev.konst ?_))
          rw [← mk_B s, he, List.concat_eq_append]
theorem TrimR_l0 : ∀ (n : Nat) (s : ByteArray), s.size ≤ n → s.size ≤ 1000000000 → Ev (fun k => sprref12_Trim.l0 k s) (mk (tr (B s)))
  | n, s, hn, hs => by
    refine Ev.step (fun _ => sprref12_Trim.l0.eq_2 ..) ?_
    rw [tr_eq]
    have fin : ∀ l, l = B s → Ev (fun k => sprref12_Trim.j1 k s) (mk (rdw blank l)) := fun l e => by
      subst e
      exact Ev.step (fun _ => sprref12_Trim.j1.eq_2 ..) (TrimR_l1 s.size s (Nat.le_refl _) hs)
    cases he : B s with
    | nil =>
      have h0 : s.size = 0 := by rw [size_B, he]; rfl
      exact Ev.neg (by omega) (fin _ (by rw [he]; rfl))
    | cons c t =>
      have hsz : s.size = t.length + 1 := by rw [size_B, he]; simp
      have hc : bt s 0 = (c.toNat : Int) := bt_of (i := 0) (by rw [he]; rfl)
      have hin : B (s.extract 1 s.size) = t := by rw [B_from, he]; rfl
      have hl : (s.extract 1 s.size).size = t.length := by rw [size_B, hin]
      rw [hc, List.dropWhile_cons]
      refine Ev.pos (by omega) (Ev.pos (by omega) ?_)
      obtain ⟨n, rfl⟩ : ∃ m, n = m + 1 := ⟨n - 1, by omega⟩
      by_cases h1 : (c.toNat : Int) = 32
      · rw [if_pos ((blank_iff c).2 (.inl h1))]
        refine Ev.pos h1 (Ev.pos (by omega) ?_)
        have := TrimR_l0 n (s.extract 1 s.size) (by omega) (by omega)
        rw [hin, tr_eq] at this; exact this
      · by_cases h2 : (c.toNat : Int) = 9
        · rw [if_pos ((blank_iff c).2 (.inr h2))]
          refine Ev.neg h1 (Ev.pos h2 (Ev.pos (by omega) ?_))
          have := TrimR_l0 n (s.extract 1 s.size) (by omega) (by omega)
          rw [hin, tr_eq] at this; exact this
        · rw [if_neg (fun h => ((blank_iff c).1 h).elim h1 h2)]
          exact Ev.neg h1 (Ev.neg h2 (fin _ he.symm))
theorem TrimR_ok (s : ByteArray) (hs : s.size ≤ 1000000000) : Ev (fun k => sprref12_Trim.f k s) (mk (tr (B s))) := by
  unfold sprref12_Trim.f
  exact TrimR_l0 s.size s (Nat.le_refl _) hs
/-- A byte of a name. -/
def tch (c : UInt8) : Bool := (decide (97 ≤ c.toNat) && decide (c.toNat ≤ 122)) || (decide (65 ≤ c.toNat) && decide (c.toNat ≤ 90)) || (decide (48 ≤ c.toNat) && decide (c.toNat ≤ 57)) || ([33, 35, 36, 37, 38, 39, 42, 43, 45, 46, 94, 95, 96, 124, 126] : List UInt8).contains c
def nameOf (l : List UInt8) : Bool := l.all tch && decide (1 ≤ l.length) && decide (l.length ≤ 100)
theorem idx_contains (l : List UInt8) (c : UInt8) : l.contains c = decide (Lib.indexByte l c ≥ 0) := Lib.contains_iff_indexByte l c
theorem IB_ok (s : ByteArray) (c : UInt8) : strings_IndexByte.f s (c.toNat : Int) = some (Lib.indexByte (B s) c) := by
  unfold strings_IndexByte.f
  congr 2
  show ((c.toNat : Int).toNat).toUInt8 = c
  rw [Int.toNat_natCast]
  simp
theorem Ev.range {α : Type} {lo hi c : Int} {X Y : Nat → Option α} {r : α} (h1 : lo ≤ c ∧ c ≤ hi → Ev X r) (h2 : ¬ (lo ≤ c ∧ c ≤ hi) → Ev Y r) : Ev (fun k => if c ≥ lo then (if c ≤ hi then X k else Y k) else Y k) r := by
  by_cases a : c ≥ lo
  · by_cases b : c ≤ hi
    · exact Ev.pos a (Ev.pos b (h1 ⟨a, b⟩))
    · exact Ev.pos a (Ev.neg b (h2 fun z => b z.2))
  · exact Ev.neg a (h2 fun z => a z.1)
def others : ByteArray := ⟨#[33, 35, 36, 37, 38, 39, 42, 43, 45, 46, 94, 95, 96, 124, 126]⟩
theorem tch_of {c : UInt8} : tch c = ((decide (97 ≤ (c.toNat : Int) ∧ (c.toNat : Int) ≤ 122)) || (decide (65 ≤ (c.toNat : Int) ∧ (c.toNat : Int) ≤ 90)) || (decide (48 ≤ (c.toNat : Int) ∧ (c.toNat : Int) ≤ 57)) || (B others).contains c) := by
  have e : ∀ a b : Nat, (decide (a ≤ c.toNat) && decide (c.toNat ≤ b)) = decide ((a : Int) ≤ (c.toNat : Int) ∧ (c.toNat : Int) ≤ (b : Int)) := by
    intro a b; rw [Bool.eq_iff_iff]; simp
  unfold tch
  rw [e, e, e]; rfl
theorem Name_loop (s : ByteArray) (hs : s.size ≤ 9223372036854775807) : ∀ (t : List UInt8) (i : Nat), (B s).drop i = t → Ev (fun k => head_Name.l0 k s (s.size : Int) (i : Int)) (t.all tch && (decide (1 ≤ s.size) && decide (s.size ≤ 100)))
  | [], i, ht => by
    have := end_drop ht
    refine Ev.step (fun _ => head_Name.l0.eq_2 ..) (Ev.neg (by omega) ?_)
    rw [toList_B, List.all_nil, Bool.true_and]
    by_cases h : B s = []
    · have h0 : s.size = 0 := by rw [size_B, h]; rfl
      refine Ev.pos h ?_
      rw [h0]; exact Ev.now _
    · have h0 : 1 ≤ s.size := by rw [size_B]; exact List.length_pos_iff.2 h
      refine Ev.neg h ?_
      rw [decide_eq_true h0, Bool.true_and]
      refine Ev.konst ?_
      congr 1
      rw [Bool.eq_iff_iff]; simp; omega
  | c :: t, i, ht => by
    obtain ⟨a1, a2, a3⟩ := bt_drop ht
    have ih := Name_loop s hs t (i + 1) a3
    refine Ev.step (fun _ => head_Name.l0.eq_2 ..) (Ev.pos (by omega) (Ev.pos (by omega) (Ev.pos (by omega) ?_)))
    rw [a1, wrap_id (by omega) (by omega), cast_succ]
    have yes : tch c = true → Ev (fun k => head_Name.l0 k s (s.size : Int) ((i + 1 : Nat) : Int)) ((c :: t).all tch && (decide (1 ≤ s.size) && decide (s.size ≤ 100))) := fun h => by
      rw [List.all_cons, h, Bool.true_and]; exact ih
    have T := @tch_of c
    refine Ev.range (fun h => yes (by rw [T, decide_eq_true h]; simp)) (fun n1 => Ev.range (fun h => yes (by rw [T, decide_eq_true h]; simp)) (fun n2 => Ev.range (fun h => yes (by rw [T, decide_eq_true h]; simp)) (fun n3 => Ev.bnd (IB_ok others c) ?_)))
    have T2 : tch c = decide (Lib.indexByte (B others) c ≥ 0) := by
      rw [T, decide_eq_false n1, decide_eq_false n2, decide_eq_false n3, idx_contains]; simp
    by_cases hx : Lib.indexByte (B others) c ≥ 0
    · exact Ev.pos hx (yes (by rw [T2, decide_eq_true hx]))
    · refine Ev.neg hx ?_
      rw [List.all_cons, T2, decide_eq_false hx]; exact Ev.now _
def nm (s : ByteArray) : Bool := (B s).all tch && (decide (1 ≤ s.size) && decide (s.size ≤ 100))
theorem Name_ok (s : ByteArray) (hs : s.size ≤ 9223372036854775807) : Ev (fun k => head_Name.f k s) (nm s) := Name_loop s hs (B s) 0 rfl
theorem amongR_loop (s : ByteArray) (hs : s.size ≤ 1000000000) (c : UInt8) : ∀ (t : List UInt8) (i : Nat), (B s).drop i = t → Ev (fun k => sprref12_among.l0 k s (c.toNat : Int) (i : Int)) (t.contains c)
  | [], i, ht => by
    have := end_drop ht
    exact Ev.step (fun _ => sprref12_among.l0.eq_2 ..) (Ev.neg (by omega) (Ev.now _))
  | x :: t, i, ht => by
    obtain ⟨a1, a2, a3⟩ := bt_drop ht
    refine Ev.step (fun _ => sprref12_among.l0.eq_2 ..) (Ev.pos (by omega) (Ev.pos (by omega) ?_))
    rw [a1, wrap_id (by omega) (by omega), cast_succ]
    by_cases h : x = c
    · refine Ev.pos (by rw [h]) ?_
      rw [h]; simp; exact Ev.now _
    · have h' : ¬ (x.toNat : Int) = (c.toNat : Int) := fun e => h (UInt8.toNat_inj.1 (by omega))
      refine Ev.neg h' ?_
      have e : (x :: t).contains c = t.contains c := by
        rw [List.contains_cons]
        have : (c == x) = false := beq_eq_false_iff_ne.2 (fun e => h e.symm)
        rw [this, Bool.false_or]
      rw [e]; exact amongR_loop s hs c t (i + 1) a3
theorem in_range {lo hi c : Int} {X Y : Nat → Option Bool} {r : Bool} (f : Option Bool) (hf : f = some (decide (lo ≤ c ∧ c ≤ hi))) (h1 : lo ≤ c ∧ c ≤ hi → Ev X r) (h2 : ¬ (lo ≤ c ∧ c ≤ hi) → Ev Y r) : Ev (fun k => f.bind fun t => if t = true then X k else Y k) r := by
  rw [hf]
  by_cases h : lo ≤ c ∧ c ≤ hi
  · rw [decide_eq_true h]; exact h1 h
  · rw [decide_eq_false h]; exact h2 h
theorem rng (lo hi c : Int) : (if c ≥ lo then (some (decide (c ≤ hi))) else (some false)) = some (decide (lo ≤ c ∧ c ≤ hi)) := by
  by_cases h : c ≥ lo
  · rw [if_pos h]; congr 1; rw [Bool.eq_iff_iff]; simp; omega
  · rw [if_neg h, decide_eq_false (fun z => h z.1)]
theorem NameR_loop (s : ByteArray) (hs : s.size ≤ 9223372036854775807) : ∀ (t : List UInt8) (i : Nat), (B s).drop i = t → Ev (fun k => sprref12_Name.l0 k s (i : Int)) (t.all tch && (decide (1 ≤ s.size) && decide (s.size ≤ 100)))
  | [], i, ht => by
    have := end_drop ht
    refine Ev.step (fun _ => sprref12_Name.l0.eq_2 ..) (Ev.neg (by omega) ?_)
    rw [List.all_nil, Bool.true_and]
    by_cases h : (s.size : Int) ≥ 1
    · refine Ev.pos h (Ev.konst ?_)
      rw [decide_eq_true (show 1 ≤ s.size by omega), Bool.true_and]
      congr 1
      rw [Bool.eq_iff_iff]; simp; omega
    · refine Ev.neg h ?_
      rw [decide_eq_false (show ¬ 1 ≤ s.size by omega)]; exact Ev.now _
  | c :: t, i, ht => by
    obtain ⟨a1, a2, a3⟩ := bt_drop ht
    have ih := NameR_loop s hs t (i + 1) a3
    refine Ev.step (fun _ => sprref12_Name.l0.eq_2 ..) (Ev.pos (by omega) (Ev.pos (by omega) ?_))
    rw [a1, wrap_id (by omega) (by omega), cast_succ]
    have yes : tch c = true → Ev (fun k => sprref12_Name.l0 k s ((i + 1 : Nat) : Int)) ((c :: t).all tch && (decide (1 ≤ s.size) && decide (s.size ≤ 100))) := fun h => by
      rw [List.all_cons, h, Bool.true_and]; exact ih
    have T := @tch_of c
    refine in_range (lo := 97) (hi := 122) (c := (c.toNat : Int)) _ (rng ..) (fun h => yes (by rw [T, decide_eq_true h]; simp)) (fun n1 => in_range (lo := 65) (hi := 90) (c := (c.toNat : Int)) _ (rng ..) (fun h => yes (by rw [T, decide_eq_true h]; simp)) (fun n2 => in_range (lo := 48) (hi := 57) (c := (c.toNat : Int)) _ (rng ..) (fun h => yes (by rw [T, decide_eq_true h]; simp)) (fun n3 => Ev.bind (amongR_loop others (by decide) c (B others) 0 rfl) ?_)))
    have T2 : tch c = (B others).contains c := by
      rw [T, decide_eq_false n1, decide_eq_false n2, decide_eq_false n3]; simp
    by_cases hx : (B others).contains c = true
    · exact Ev.pos hx (yes (by rw [T2, hx]))
    · refine Ev.neg hx ?_
      rw [List.all_cons, T2, Bool.eq_false_iff.2 hx]; exact Ev.now _
theorem NameR_ok (s : ByteArray) (hs : s.size ≤ 9223372036854775807) : Ev (fun k => sprref12_Name.f k s) (nm s) := NameR_loop s hs (B s) 0 rfl
/-- A byte of a value. -/
def vch (c : UInt8) : Bool := !(decide ((c.toNat : Int) < 32) && !decide ((c.toNat : Int) = 9)) && !decide ((c.toNat : Int) = 127)
def vl (s : ByteArray) : Bool := (B s).all vch && (decide ((s.size : Int) ≤ 4000) && decide (tr (B s) = B s))
theorem val_end {s : ByteArray} {g : Nat → Option ByteArray} (h : s.size ≤ 4000 → Ev g (mk (tr (B s)))) : Ev (fun k => if (s.size : Int) ≤ 4000 then ((g k).bind fun t => (some (t.toList == s.toList))) else (some false)) (decide ((s.size : Int) ≤ 4000) && decide (tr (B s) = B s)) := by
  by_cases h1 : (s.size : Int) ≤ 4000
  · refine Ev.pos h1 (Ev.bind (h (by omega)) (Ev.konst ?_))
    rw [decide_eq_true h1, Bool.true_and, toList_B, toList_B, B_mk]
    congr 1
    rw [Bool.eq_iff_iff]; simp
  · refine Ev.neg h1 ?_
    rw [decide_eq_false h1]; exact Ev.now _
theorem val_ch {c : UInt8} {X : Nat → Option Bool} {r0 : Bool} {t : List UInt8} {e : Bool} (h : Ev X (t.all vch && e)) : Ev (fun k => if (c.toNat : Int) < 32 then (if (c.toNat : Int) = 9 then (if (c.toNat : Int) = 127 then (some false) else X k) else (some false)) else (if (c.toNat : Int) = 127 then (some false) else X k)) ((c :: t).all vch && e) := by
  rw [List.all_cons]
  by_cases h1 : (c.toNat : Int) < 32
  · refine Ev.pos h1 ?_
    by_cases h2 : (c.toNat : Int) = 9
    · refine Ev.pos h2 (Ev.neg (by omega) ?_)
      have : vch c = true := by unfold vch; rw [decide_eq_true h2, decide_eq_false (show ¬ (c.toNat : Int) = 127 by omega)]; simp
      rw [this, Bool.true_and]; exact h
    · refine Ev.neg h2 ?_
      have : vch c = false := by unfold vch; rw [decide_eq_true h1, decide_eq_false h2]; simp
      rw [this]; exact Ev.now _
  · refine Ev.neg h1 ?_
    by_cases h2 : (c.toNat : Int) = 127
    · refine Ev.pos h2 ?_
      have : vch c = false := by unfold vch; rw [decide_eq_true h2]; simp
      rw [this]; exact Ev.now _
    · refine Ev.neg h2 ?_
      have : vch c = true := by unfold vch; rw [decide_eq_false h1, decide_eq_false h2]; simp
      rw [this, Bool.true_and]; exact h
theorem Value_loop (s : ByteArray) (hs : s.size ≤ 9223372036854775807) : ∀ (t : List UInt8) (i : Nat), (B s).drop i = t → Ev (fun k => head_Value.l0 k s (s.size : Int) (i : Int)) (t.all vch && (decide ((s.size : Int) ≤ 4000) && decide (tr (B s) = B s)))
  | [], i, ht => by
    have := end_drop ht
    refine Ev.step (fun _ => head_Value.l0.eq_2 ..) (Ev.neg (by omega) ?_)
    exact val_end (g := fun _ => head_Trim.f s) (fun h => Ev.konst (Trim_ok s (by omega)))
  | c :: t, i, ht => by
    obtain ⟨a1, a2, a3⟩ := bt_drop ht
    refine Ev.step (fun _ => head_Value.l0.eq_2 ..) (Ev.pos (by omega) (Ev.pos (by omega) (Ev.pos (by omega) ?_)))
    rw [a1, wrap_id (by omega) (by omega), cast_succ]
    exact val_ch (r0 := true) (Value_loop s hs t (i + 1) a3)
theorem Value_ok (s : ByteArray) (hs : s.size ≤ 9223372036854775807) : Ev (fun k => head_Value.f k s) (vl s) := Value_loop s hs (B s) 0 rfl
theorem ValueR_loop (s : ByteArray) (hs : s.size ≤ 9223372036854775807) : ∀ (t : List UInt8) (i : Nat), (B s).drop i = t → Ev (fun k => sprref12_Value.l0 k s (i : Int)) (t.all vch && (decide ((s.size : Int) ≤ 4000) && decide (tr (B s) = B s)))
  | [], i, ht => by
    have := end_drop ht
    refine Ev.step (fun _ => sprref12_Value.l0.eq_2 ..) (Ev.neg (by omega) ?_)
    exact val_end (fun h => TrimR_ok s (by omega))
  | c :: t, i, ht => by
    obtain ⟨a1, a2, a3⟩ := bt_drop ht
    refine Ev.step (fun _ => sprref12_Value.l0.eq_2 ..) (Ev.pos (by omega) (Ev.pos (by omega) ?_))
    rw [a1, wrap_id (by omega) (by omega), cast_succ]
    exact val_ch (r0 := true) (ValueR_loop s hs t (i + 1) a3)
theorem ValueR_ok (s : ByteArray) (hs : s.size ≤ 9223372036854775807) : Ev (fun k => sprref12_Value.f k s) (vl s) := ValueR_loop s hs (B s) 0 rfl
theorem LowerR_ok {s : ByteArray} (h : s.size ≤ 9223372036854775807) : sprref12_Lower.f s = some (Own.low s) := by
  unfold sprref12_Lower.f; rw [if_pos h]
theorem same_dec (a b : ByteArray) : ((Own.low a).toList = (Own.low b).toList) ↔ Own.same a b = true := by
  unfold Own.same; rw [beq_iff_eq]
theorem AllR_loop (l : List S45) (n : ByteArray) (hl : l.length ≤ 1000000) (ho : okL l) (hn : n.size ≤ 9223372036854775807) : ∀ (t : List S45) (i : Nat) (acc : List ByteArray), l.drop i = t → acc.length ≤ i → Ev (fun k => sprref12_All.l0 k l n acc (i : Int)) (acc ++ allOf t n)
  | [], i, acc, ht, ha => by
    have := drop_nil ht
    have e : allOf [] n = [] := rfl
    rw [e, List.append_nil]
    exact Ev.step (fun _ => sprref12_All.l0.eq_2 ..) (Ev.neg (by omega) (Ev.now _))
  | x :: t, i, acc, ht, ha => by
    obtain ⟨a1, a2, a3⟩ := drop_cons ht
    have hx := ho x (List.mem_of_getElem? a2)
    have r1 : rd_T45 l (i : Int) = x := by unfold rd_T45; rw [Int.toNat_natCast, List.getD_eq_getElem?_getD, a2]; rfl
    refine Ev.step (fun _ => sprref12_All.l0.eq_2 ..) (Ev.pos (by omega) (Ev.pos (by omega) ?_))
    rw [r1, wrap_id (by omega) (by omega), cast_succ]
    refine Ev.bnd (LowerR_ok hx.1) (Ev.bnd (LowerR_ok hn) ?_)
    cases hs : Own.same x.f0 n with
    | true =>
      have ih := AllR_loop l n hl ho hn t (i + 1) (acc ++ [x.f1]) a3 (by rw [List.length_append, List.length_singleton]; omega)
      have e : allOf (x :: t) n = x.f1 :: allOf t n := by simp [allOf, hs]
      rw [e]
      rw [List.append_assoc] at ih
      exact Ev.pos ((same_dec _ _).2 hs) (Ev.pos (by omega) ih)
    | false =>
      have ih := AllR_loop l n hl ho hn t (i + 1) acc a3 (by omega)
      have e : allOf (x :: t) n = allOf t n := by simp [allOf, hs]
      rw [e]
      exact Ev.neg (fun h => by rw [(same_dec _ _).1 h] at hs; cases hs) ih
theorem AllR_ok {l : List S45} (hl : l.length ≤ 1000000) (ho : okL l) {n : ByteArray} (hn : n.size ≤ 9223372036854775807) : Ev (fun k => sprref12_All.f k l n) (allOf l n) := AllR_loop l n hl ho hn l 0 [] rfl (Nat.le_refl 0)
def may (l : List S45) : Bool := (l.all fun x => nm x.f0 && vl x.f1)
theorem May_loop (l : List S45) (hl : l.length ≤ 1000000) (ho : okL l) : ∀ (t : List S45) (i : Nat), l.drop i = t → Ev (fun k => head_May.l0 k l l (l.length : Int) (i : Int)) ((t.all fun x => nm x.f0 && vl x.f1) && decide ((l.length : Int) ≤ 64))
  | [], i, ht => by
    have := drop_nil ht
    refine Ev.step (fun _ => head_May.l0.eq_2 ..) (Ev.neg (by omega) ?_)
    rw [List.all_nil, Bool.true_and]; exact Ev.now _
  | x :: t, i, ht => by
    obtain ⟨a1, a2, a3⟩ := drop_cons ht
    have hx := ho x (List.mem_of_getElem? a2)
    have r1 : rd_T45 l (i : Int) = x := by unfold rd_T45; rw [Int.toNat_natCast, List.getD_eq_getElem?_getD, a2]; rfl
    refine Ev.step (fun _ => head_May.l0.eq_2 ..) (Ev.pos (by omega) (Ev.pos (by omega) (Ev.pos (by omega) ?_)))
    rw [r1, wrap_id (by omega) (by omega), cast_succ, List.all_cons]
    refine Ev.bind (Name_ok x.f0 hx.1) ?_
    cases hn : nm x.f0 with
    | false => exact Ev.neg (by simp) (Ev.now _)
    | true =>
      refine Ev.pos rfl (Ev.bind (Value_ok x.f1 hx.2) ?_)
      cases hv : vl x.f1 with
      | false => exact Ev.neg (by simp) (Ev.now _)
      | true => exact Ev.pos rfl (May_loop l hl ho t (i + 1) a3)
theorem MayR_loop (l : List S45) (hl : l.length ≤ 1000000) (ho : okL l) : ∀ (t : List S45) (i : Nat), l.drop i = t → Ev (fun k => sprref12_May.l0 k l (i : Int)) ((t.all fun x => nm x.f0 && vl x.f1) && decide ((l.length : Int) ≤ 64))
  | [], i, ht => by
    have := drop_nil ht
    refine Ev.step (fun _ => sprref12_May.l0.eq_2 ..) (Ev.neg (by omega) ?_)
    rw [List.all_nil, Bool.true_and]; exact Ev.now _
  | x :: t, i, ht => by
    obtain ⟨a1, a2, a3⟩ := drop_cons ht
    have hx := ho x (List.mem_of_getElem? a2)
    have r1 : rd_T45 l (i : Int) = x := by unfold rd_T45; rw [Int.toNat_natCast, List.getD_eq_getElem?_getD, a2]; rfl
    refine Ev.step (fun _ => sprref12_May.l0.eq_2 ..) (Ev.pos (by omega) (Ev.pos (by omega) ?_))
    rw [r1, wrap_id (by omega) (by omega), cast_succ, List.all_cons]
    refine Ev.bind (NameR_ok x.f0 hx.1) ?_
    cases hn : nm x.f0 with
    | false => exact Ev.neg (by simp) (Ev.now _)
    | true =>
      refine Ev.pos rfl (Ev.bind (ValueR_ok x.f1 hx.2) ?_)
      cases hv : vl x.f1 with
      | false => exact Ev.neg (by simp) (Ev.now _)
      | true => exact Ev.pos rfl (MayR_loop l hl ho t (i + 1) a3)
theorem HeadWords (s : ByteArray) (l : List S45) (g0 : s.size ≤ maxLen) (g1 : l.length ≤ maxLen ∧ ∀ x ∈ l, x.f0.size ≤ maxLen ∧ x.f1.size ≤ maxLen) : ∃ k, sprlaw13_HeadWords.f k s l = some true := by
  have ho : okL l := g1.2
  have big : Ev (fun k => sprlaw13_HeadWords.j0 k s l true) true := Ev.step (fun _ => sprlaw13_HeadWords.j0.eq_2 ..) (Ev.pos rfl (Ev.bind first_ok (Ev.now _)))
  refine Ev.rounds ?_
  unfold sprlaw13_HeadWords.f
  refine Ev.bind first_ok (Ev.pos rfl ?_)
  by_cases h1 : (s.size : Int) > 20000
  · exact Ev.pos h1 big
  obtain ⟨b0, hb0, hf0⟩ := Few_ok l
  refine Ev.neg h1 (Ev.bind hb0 ?_)
  cases hq : b0 with
  | false => exact big
  | true =>
    have l0 := hf0 hq
    have hs : s.size ≤ 9223372036854775807 := by omega
    have beq : ∀ b : Bool, (b == b) = true := by decide
    refine Ev.step (fun _ => sprlaw13_HeadWords.j0.eq_2 ..) (Ev.neg (by simp) (Ev.bind first_ok (Ev.pos rfl (Ev.bind (Name_ok s hs) (Ev.bind (NameR_ok s hs) (Ev.pos (beq _) (Ev.bind (Value_ok s hs) (Ev.bind (ValueR_ok s hs) (Ev.pos (beq _) (Ev.bnd (Lower_ok hs) (Ev.bnd (LowerR_ok hs) (Ev.pos rfl (Ev.bnd (Trim_ok s (by omega)) (Ev.bind (TrimR_ok s (by omega)) (Ev.pos rfl (Ev.bind (May_loop l (by omega) ho l 0 rfl) (Ev.bind (MayR_loop l (by omega) ho l 0 rfl) (Ev.konst ?_))))))))))))))))))
    rw [beq]

end Go.Proofs.YtmcjmmdejgoamaaDoor.Pure
