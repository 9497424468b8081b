/-
The law UseMarks: what is asked with has the lines that were asked, and behind them marks of stored ones alone: each tag told is a stored one's, each stored one's tag is told once, where it may be.
-/
import Derived.Test.YtfjeagglminhoaaGreatDoorQ13
set_option linter.unusedVariables false
set_option linter.unusedSimpArgs false
namespace Go.Proofs.YtfjeagglminhoaaGreatDoor.Pure
open Go.RowKit Go.Proofs.YtfjeagglminhoaaGreatDoor.Q Go.Proofs.YtfjeagglminhoaaGreatDoorW.PrintWords Go.Proofs.YtfjeagglminhoaaGreatDoorW.PrintLast
theorem wrap_id {x : Int} (h0 : -9223372036854775808 ≤ x) (h1 : x ≤ 9223372036854775807) : wrap64 x = x := by unfold wrap64; omega
theorem Ev.succ {α : Type} {g : Nat → Option α} {r : α} (h : Ev (fun k => g (k + 1)) r) : Ev g r := Ev.step (fun _ => rfl) h
theorem Ev.konst {α : Type} {o : Option α} {r : α} (h : o = some r) : Ev (fun _ => o) r := ⟨0, fun _ _ => h⟩
theorem Ev.at {α : Type} {g : Nat → Option α} {r : α} (K : Nat) (h : ∀ k, g (k + K) = some r) : Ev g r := ⟨K, fun n hn => by
  obtain ⟨m, rfl⟩ : ∃ m, n = m + K := ⟨n - K, by omega⟩
  exact h m⟩
theorem drop_cons {α : Type} {l : List α} {i : Nat} {c : α} {t : List α} (h : l.drop i = c :: t) : i < l.length ∧ l[i]? = some c ∧ l.drop (i + 1) = t := by
  have h1 : (l.drop i)[0]? = some c := by rw [h]; rfl
  rw [List.getElem?_drop] at h1
  simp only [Nat.add_zero] at h1
  refine ⟨(List.getElem?_eq_some_iff.1 h1).1, h1, ?_⟩
  rw [← List.drop_drop, h]; rfl
theorem drop_nil {α : Type} {l : List α} {i : Nat} (h : l.drop i = []) : l.length ≤ i := by
  simpa using h
theorem rd_of {l : List Int} {i : Nat} {c : Int} (h : l[i]? = some c) : rd l (i : Int) = c := by
  unfold rd; rw [Int.toNat_natCast, List.getD_eq_getElem?_getD, h]; rfl
theorem rdOf_of {α : Type} {d : α} {l : List α} {i : Nat} {c : α} (h : l[i]? = some c) : rdOf d l (i : Int) = c := by
  unfold rdOf; rw [Int.toNat_natCast, List.getD_eq_getElem?_getD, h]; rfl
theorem cast_succ (i : Nat) : ((i : Int) + 1) = ((i + 1 : Nat) : Int) := by omega
theorem Ev.tell {α : Type} {a r : α} (h : a = r) : Ev (fun _ => some a) r := h ▸ Ev.now a
theorem Ev.pos {α : Type} {c : Prop} [Decidable c] {A B : Nat → Option α} {r : α} (h : c) (k : Ev A r) : Ev (fun n => if c then A n else B n) r := Ev.congr (fun _ => if_pos h) k
theorem Ev.neg {α : Type} {c : Prop} [Decidable c] {A B : Nat → Option α} {r : α} (h : ¬ c) (k : Ev B r) : Ev (fun n => if c then A n else B n) r := Ev.congr (fun _ => if_neg h) k
theorem Ev.ite {α : Type} {c : Prop} [Decidable c] {A B : Nat → Option α} {r : α} (h : c → Ev A r) (k : ¬ c → Ev B r) : Ev (fun n => if c then A n else B n) r := by
  by_cases q : c
  · exact Ev.pos q (h q)
  · exact Ev.neg q (k q)
theorem Ev.bnd {α β : Type} {o : Option β} {a : β} {f : Nat → β → Option α} {r : α} (h : o = some a) (k : Ev (fun n => f n a) r) : Ev (fun n => o.bind (f n)) r := by
  subst h; exact k
/-- A text's bytes. -/
def B (s : ByteArray) : List UInt8 := s.data.toList
def mk (l : List UInt8) : ByteArray := ⟨l.toArray⟩
theorem B_mk (l : List UInt8) : B (mk l) = l := rfl
theorem mk_B (s : ByteArray) : mk (B s) = s := rfl
theorem B_inj {s t : ByteArray} (h : B s = B t) : s = t := by rw [← mk_B s, ← mk_B t, h]
theorem toList_B (s : ByteArray) : s.toList = B s := Lib.toList_data s
theorem size_B (s : ByteArray) : s.size = (B s).length := Lib.size_eq s
theorem B_extract (s : ByteArray) (a b : Nat) : B (s.extract a b) = ((B s).drop a).take (b - a) := Lib.extract_data s a b
theorem B_append (s t : ByteArray) : B (s ++ t) = B s ++ B t := by
  unfold B
  rw [ByteArray.data_append, Array.toList_append]
theorem B_to (s : ByteArray) (n : Nat) : B (s.extract 0 n) = (B s).take n := by rw [B_extract, List.drop_zero, Nat.sub_zero]
theorem B_from (s : ByteArray) (n : Nat) : B (s.extract n s.size) = (B s).drop n := by
  rw [B_extract, size_B]
  exact List.take_of_length_le (by rw [List.length_drop]; omega)
theorem bt_of {s : ByteArray} {i : Nat} {c : UInt8} (h : (B s)[i]? = some c) : bt s (i : Int) = (c.toNat : Int) := by
  unfold bt
  have hi : i < s.size := by rw [size_B]; exact (List.getElem?_eq_some_iff.1 h).1
  rw [Int.toNat_natCast, dif_pos hi]
  have : (s[i]'hi) = c := by
    have h1 : (B s)[i]? = some (s[i]'hi) := by
      unfold B
      rw [Array.getElem?_toList]
      exact Array.getElem?_eq_getElem _
    rw [h1] at h
    exact Option.some.inj h
  rw [this]
/-- The byte that a suffix begins with. -/
theorem bt_drop {s : ByteArray} {i : Nat} {c : UInt8} {t : List UInt8} (h : (B s).drop i = c :: t) : bt s (i : Int) = (c.toNat : Int) ∧ i < s.size ∧ (B s).drop (i + 1) = t := by
  obtain ⟨h1, h2, h3⟩ := drop_cons h
  exact ⟨bt_of h2, by rw [size_B]; exact h1, h3⟩
theorem end_drop {s : ByteArray} {i : Nat} (h : (B s).drop i = []) : s.size ≤ i := by rw [size_B]; exact drop_nil h
theorem u8_eq (c : UInt8) (n : Nat) (h : n < 256) : ((c.toNat : Int) = (n : Int)) ↔ c = UInt8.ofNat n := by
  constructor
  · intro e
    have e' : c.toNat = n := by omega
    rw [← e']; exact (UInt8.ofNat_toNat).symm
  · intro e
    rw [e, UInt8.toNat_ofNat']
    have : n % 2 ^ 8 = n := Nat.mod_eq_of_lt h
    omega
theorem u8_lt (c : UInt8) : (c.toNat : Int) < 256 ∧ 0 ≤ (c.toNat : Int) := by
  have := UInt8.toNat_lt c
  omega
/-! names in small letters -/
theorem lowb_low (c : UInt8) : Own.lowb (Own.lowb c) = Own.lowb c := by
  by_cases h : 65 ≤ c.toNat ∧ c.toNat ≤ 90
  · have e : Own.lowb c = c + 32 := by unfold Own.lowb; rw [if_pos h]
    have h2 : (c + 32).toNat = c.toNat + 32 := by
      rw [UInt8.toNat_add]
      show (c.toNat + 32) % 256 = _
      omega
    rw [e]
    unfold Own.lowb
    rw [if_neg (by omega)]
  · have e : Own.lowb c = c := by unfold Own.lowb; rw [if_neg h]
    rw [e, e]
theorem low_low (s : ByteArray) : Own.low (Own.low s) = Own.low s := by
  apply B_inj
  show ((s.data.toList.map Own.lowb).map Own.lowb) = s.data.toList.map Own.lowb
  rw [List.map_map]
  congr 1
  funext c
  exact lowb_low c
theorem low_size (s : ByteArray) : (Own.low s).size = s.size := by
  rw [size_B, size_B s]
  show (s.data.toList.map Own.lowb).length = _
  rw [List.length_map]; rfl
/-- The values of a name. -/
def allOf (l : List S33) (nm : ByteArray) : List ByteArray := (l.filter fun x => Own.same x.f0 nm).map (·.f1)
theorem head_is_sameM (a b : ByteArray) (ha : Own.okS a = true) (hb : Own.okS b = true) : head_is.f a b = some (Own.same a b) := by
  unfold Own.okS at ha hb
  unfold head_is.f head_Lower.f
  rw [if_pos (of_decide_eq_true ha), if_pos (of_decide_eq_true hb)]
  rfl
theorem head_All_from (l : List S33) (nm : ByteArray) (hl : l.length < 4398046511104) (hn : Own.okS nm = true) (ho : ∀ x ∈ l, Own.okS x.f0 = true) : ∀ (t : List S33) (i : Nat) (acc : List ByteArray), l.drop i = t → acc.length ≤ i →
    head_All.l0 (t.length + 1) nm acc l (l.length : Int) (i : Int) = some (acc ++ allOf t nm)
  | [], i, acc, ht, ha => by
    have h1 : l.length ≤ i := by
      rcases Nat.lt_or_ge i l.length with h | h
      · rw [List.drop_eq_getElem_cons h] at ht; cases ht
      · exact h
    unfold head_All.l0
    rw [if_neg (by omega)]
    simp [allOf]
  | x :: t, i, acc, ht, ha => by
    have hi : i < l.length := by
      rcases Nat.lt_or_ge i l.length with h | h
      · exact h
      · rw [List.drop_eq_nil_of_le h] at ht; cases ht
    rw [List.drop_eq_getElem_cons hi] at ht
    injection ht with hx ht
    have hr : rd_T33 l (i : Int) = x := by
      unfold rd_T33; rw [Int.toNat_natCast, List.getD_eq_getElem?_getD, List.getElem?_eq_getElem hi, hx]; rfl
    have hw : wrap64 ((i : Int) + 1) = ((i + 1 : Nat) : Int) := by unfold wrap64; omega
    have hm : x ∈ l := by rw [← hx]; exact List.getElem_mem hi
    have ih := fun acc ha => head_All_from l nm hl hn ho t (i + 1) acc ht ha
    show head_All.l0 (t.length + 1 + 1) nm acc l (l.length : Int) (i : Int) = _
    rw [head_All.l0, if_pos (by omega), if_pos (by omega), if_pos (by omega), hr, head_is_sameM _ _ (ho x hm) hn, hw, Option.bind_some]
    cases hs : Own.same x.f0 nm with
    | true =>
      rw [if_pos rfl, if_pos (by omega), ih _ (by rw [List.length_append, List.length_singleton]; omega)]
      simp [allOf, hs]
    | false =>
      rw [if_neg (by simp), ih _ (by omega)]
      simp [allOf, hs]
theorem head_All_is (l : List S33) (nm : ByteArray) (hl : l.length < 4398046511104) (hn : Own.okS nm = true) (ho : ∀ x ∈ l, Own.okS x.f0 = true) : head_All.f (l.length + 1) l nm = some (allOf l nm) := by
  have := head_All_from l nm hl hn ho l 0 [] rfl (Nat.le_refl 0)
  rw [List.nil_append] at this
  exact this
theorem same_iff (a b : ByteArray) : Own.same a b = true ↔ Own.low a = Own.low b := by
  unfold Own.same
  rw [toList_B, toList_B, beq_iff_eq]
  exact ⟨B_inj, fun h => by rw [h]⟩
theorem same_congr {a a' b b' : ByteArray} (h1 : Own.low a = Own.low a') (h2 : Own.low b = Own.low b') : Own.same a b = Own.same a' b' := by
  rw [Bool.eq_iff_iff, same_iff, same_iff, h1, h2]
theorem same_low (a b : ByteArray) : Own.same a (Own.low b) = Own.same a b := same_congr rfl (low_low b)
theorem same_self (a : ByteArray) : Own.same a a = true := (same_iff a a).2 rfl
theorem okS_of {s : ByteArray} (h : s.size ≤ 9223372036854775807) : Own.okS s = true := decide_eq_true h
instance : DecidableEq S33 := fun a b => decidable_of_iff (a.f0 = b.f0 ∧ a.f1 = b.f1) ⟨fun h => by cases a; cases b; cases h.1; cases h.2; rfl, fun h => by rw [h]; exact ⟨rfl, rfl⟩⟩
/-- Lines that the form lets in. -/
def okL (l : List S33) : Prop := ∀ x ∈ l, x.f0.size ≤ 9223372036854775807 ∧ x.f1.size ≤ 9223372036854775807
theorem okL.all {l : List S33} (h : okL l) : (l.all fun x => Own.okS x.f0) = true := List.all_eq_true.2 fun x hx => okS_of (h x hx).1
theorem okL.filter {l : List S33} (h : okL l) (p : S33 → Bool) : okL (l.filter p) := fun x hx => h x (List.mem_filter.1 hx).1
theorem okL.append {l m : List S33} (h : okL l) (k : okL m) : okL (l ++ m) := fun x hx => (List.mem_append.1 hx).elim (h x) (k x)
theorem allOf_append (l m : List S33) (n : ByteArray) : allOf (l ++ m) n = allOf l n ++ allOf m n := by
  unfold allOf; rw [List.filter_append, List.map_append]
theorem allOf_nil_iff (l : List S33) (n : ByteArray) : allOf l n = [] ↔ ∀ x ∈ l, Own.same x.f0 n = false := by
  unfold allOf
  rw [List.map_eq_nil_iff, List.filter_eq_nil_iff]
  exact ⟨fun h x hx => by simpa using h x hx, fun h x hx => by simpa using h x hx⟩
theorem allOf_congr (l : List S33) {a b : ByteArray} (h : Own.low a = Own.low b) : allOf l a = allOf l b := by
  unfold allOf
  congr 2
  funext x
  exact same_congr rfl h
theorem allOf_len (l : List S33) (n : ByteArray) : (allOf l n).length ≤ l.length := by
  unfold allOf; rw [List.length_map]; exact List.length_filter_le _ _
theorem All_ok {l : List S33} (hl : l.length < 4398046511104) (ho : okL l) {n : ByteArray} (hn : n.size ≤ 9223372036854775807) : Ev (fun k => head_All.f k l n) (allOf l n) :=
  Ev.of (fun k => head_All.mono _ _ k) (head_All_is l n hl (okS_of hn) (fun x hx => okS_of (ho x hx).1))
/-- Lines of which a law speaks: few, and what has a name is short. -/
structure LinesOk (l : List S33) : Prop where
  len : l.length ≤ 400
  okL : okL l
  val : ∀ x ∈ l, 1 ≤ x.f0.size → x.f1.size ≤ 1100000
theorem same_size {a b : ByteArray} (h : Own.same a b = true) : a.size = b.size := by
  have := congrArg ByteArray.size ((same_iff a b).1 h)
  rwa [low_size, low_size] at this
theorem LinesOk.all {l : List S33} (h : LinesOk l) (n : ByteArray) (hn : 1 ≤ n.size) : (allOf l n).length ≤ 400 ∧ ∀ s ∈ allOf l n, s.size ≤ 1100000 := by
  refine ⟨Nat.le_trans (allOf_len l n) h.len, fun s hs => ?_⟩
  unfold allOf at hs
  obtain ⟨x, hx, rfl⟩ := List.mem_map.1 hs
  have hx := List.mem_filter.1 hx
  exact h.val x hx.1 (by have := same_size hx.2; omega)
theorem LinesOk.of {l : List S33} (g : l.length ≤ maxLen ∧ ∀ x ∈ l, x.f0.size ≤ maxLen ∧ x.f1.size ≤ maxLen) (h : l.length ≤ 80 ∧ ∀ x ∈ l, 1 ≤ x.f0.size → x.f1.size ≤ 20000) : LinesOk l :=
  ⟨by omega, fun x hx => g.2 x hx, fun x hx h1 => by have := h.2 x hx h1; omega⟩
theorem sum_lines : ∀ (l : List S33), l.length ≤ (l.map fun y => ((y.f0.size + 1) + (y.f1.size + 1) + 1)).sum ∧ ∀ x ∈ l, x.f0.size + x.f1.size + 3 ≤ (l.map fun y => ((y.f0.size + 1) + (y.f1.size + 1) + 1)).sum
  | [] => by simp
  | x :: t => by
    obtain ⟨h1, h2⟩ := sum_lines t
    simp only [List.map_cons, List.sum_cons, List.length_cons]
    refine ⟨by omega, fun s hs => ?_⟩
    rcases List.mem_cons.1 hs with rfl | hs
    · omega
    · have := h2 s hs; omega
theorem Few_ok (l : List S33) : ∃ b, Ev (fun k => sprlaw13_Few.f k l) b ∧ (b = true → l.length ≤ 80 ∧ ∀ x ∈ l, 1 ≤ x.f0.size → x.f1.size ≤ 20000) := by
  obtain ⟨b, hb, h⟩ := Few_loop l l 0 0 rfl (by omega) (by omega) (by omega)
  exact ⟨b, hb, fun e => ⟨(h e).1, (h e).2.2⟩⟩
where
  Few_loop (l : List S33) : ∀ (t : List S33) (i : Nat) (n : Int), l.drop i = t → 0 ≤ n → n ≤ 80000 → i ≤ 80 → ∃ b, Ev (fun k => sprlaw13_Few.l0 k l n (i : Int)) b ∧ (b = true → l.length ≤ 80 ∧ n ≤ 20000 ∧ ∀ x ∈ t, 1 ≤ x.f0.size → x.f1.size ≤ 20000)
  | [], i, n, h, h0, h1, hi => by
    have := drop_nil h
    by_cases hl : l.length ≤ 80
    · refine ⟨_, Ev.step (fun _ => sprlaw13_Few.l0.eq_2 ..) (Ev.neg (by omega) (Ev.pos (by omega) (Ev.now _))), fun hb => ⟨hl, ?_, by simp⟩⟩
      exact of_decide_eq_true hb
    · exact ⟨false, Ev.step (fun _ => sprlaw13_Few.l0.eq_2 ..) (Ev.neg (by omega) (Ev.neg (by omega) (Ev.now _))), fun h => by cases h⟩
  | x :: t, i, n, h, h0, h1, hi => by
    obtain ⟨a1, a2, a3⟩ := drop_cons h
    have hx : rd_T33 l (i : Int) = x := by
      unfold rd_T33; rw [Int.toNat_natCast, List.getD_eq_getElem?_getD, a2]; rfl
    by_cases h80 : i < 80
    · have q1 : 0 ≤ mn ((rd_T33 l (i : Int)).f0.size : Int) 20000 ∧ mn ((rd_T33 l (i : Int)).f0.size : Int) 20000 ≤ 20000 ∧ (1 ≤ (rd_T33 l (i : Int)).f0.size → 1 ≤ mn ((rd_T33 l (i : Int)).f0.size : Int) 20000) := by
        unfold mn; split <;> omega
      have q2 : 0 ≤ mn ((rd_T33 l (i : Int)).f1.size : Int) 20000 ∧ mn ((rd_T33 l (i : Int)).f1.size : Int) 20000 ≤ 20000 ∧ (mn ((rd_T33 l (i : Int)).f1.size : Int) 20000 ≤ 19999 → (rd_T33 l (i : Int)).f1.size ≤ 20000) := by
        unfold mn; split <;> omega
      have q3 : ∀ z : Int, 0 ≤ z → 0 ≤ mn z 80000 ∧ mn z 80000 ≤ 80000 ∧ (mn z 80000 ≤ 20000 → z ≤ 20000) := by intro z _; unfold mn; split <;> omega
      rw [hx] at q1 q2
      generalize hv1 : mn (x.f0.size : Int) 20000 = v1 at q1
      generalize hv2 : mn (x.f1.size : Int) 20000 = v2 at q2
      obtain ⟨z0, z1, z2⟩ := q3 (n + v1 + v2) (by omega)
      obtain ⟨b, hb, hf⟩ := Few_loop l t (i + 1) (mn (n + v1 + v2) 80000) a3 z0 z1 (by omega)
      refine ⟨b, Ev.step (fun _ => sprlaw13_Few.l0.eq_2 ..) (Ev.pos (by omega) (Ev.pos (by omega) (Ev.pos (by omega) ?_))), fun e => ?_⟩
      · rw [wrap_id (x := (i : Int) + 1) (by omega) (by omega), cast_succ, hx, hv1, hv2, wrap_id (x := n + v1) (by omega) (by omega), wrap_id (x := n + v1 + v2) (by omega) (by omega)]
        exact hb
      · obtain ⟨e1, e2, e3⟩ := hf e
        have e2 := z2 e2
        refine ⟨e1, by omega, fun y hy => ?_⟩
        rcases List.mem_cons.1 hy with rfl | hy
        · intro h1; exact q2.2.2 (by have := q1.2.2 h1; omega)
        · exact e3 y hy
    · refine ⟨false, Ev.step (fun _ => sprlaw13_Few.l0.eq_2 ..) (Ev.pos (by omega) (Ev.neg (by omega) (Ev.neg (by omega) (Ev.now _)))), fun h => by cases h⟩
def blank (c : UInt8) : Bool := ([32, 9] : List UInt8).contains c
/-- Blanks and tabs at both ends away. -/
def tr (l : List UInt8) : List UInt8 := Lib.trimS l [32, 9]
def rdw (p : UInt8 → Bool) (l : List UInt8) : List UInt8 := (l.reverse.dropWhile p).reverse
theorem rdw_cons (p : UInt8 → Bool) (x : UInt8) (t : List UInt8) : rdw p (x :: t) = if rdw p t = [] then (if p x = true then [] else [x]) else x :: rdw p t := by
  unfold rdw
  rw [List.reverse_cons, List.dropWhile_append]
  by_cases h : (t.reverse.dropWhile p) = []
  · rw [h]
    by_cases hx : p x = true <;> simp [hx, List.dropWhile]
  · have h' : ¬ (t.reverse.dropWhile p).reverse = [] := fun e => h (List.reverse_eq_nil_iff.1 e)
    rw [if_neg h', if_neg (by simpa using h)]
    simp
theorem rdw_comm (p : UInt8 → Bool) : ∀ l : List UInt8, (rdw p l).dropWhile p = rdw p (l.dropWhile p)
  | [] => rfl
  | x :: t => by
    have ih := rdw_comm p t
    by_cases hx : p x = true
    · rw [List.dropWhile_cons, if_pos hx, ← ih, rdw_cons]
      by_cases h : rdw p t = []
      · rw [if_pos h, if_pos hx, h]
      · rw [if_neg h, List.dropWhile_cons, if_pos hx]
    · rw [List.dropWhile_cons, if_neg hx, rdw_cons]
      by_cases h : rdw p t = []
      · rw [if_pos h, if_neg hx, List.dropWhile_cons, if_neg hx]
      · rw [if_neg h, List.dropWhile_cons, if_neg hx]
theorem tr_eq (l : List UInt8) : tr l = rdw blank (l.dropWhile blank) := by
  rw [← rdw_comm]; rfl
theorem tr_nil : tr [] = [] := rfl
theorem length_dropWhile_le (p : UInt8 → Bool) : ∀ l : List UInt8, (l.dropWhile p).length ≤ l.length
  | [] => Nat.le_refl _
  | x :: t => by
    rw [List.dropWhile_cons]
    have := length_dropWhile_le p t
    split <;> simp only [List.length_cons] <;> omega
theorem tr_len (l : List UInt8) : (tr l).length ≤ l.length := by
  rw [tr_eq]
  unfold rdw
  have h1 := length_dropWhile_le blank (l.dropWhile blank).reverse
  have h2 := length_dropWhile_le blank l
  simp only [List.length_reverse] at h1 ⊢
  omega
/-- Nothing blank at the ends: it stays. -/
theorem dropWhile_idem (p : UInt8 → Bool) : ∀ l : List UInt8, (l.dropWhile p).dropWhile p = l.dropWhile p
  | [] => rfl
  | x :: t => by
    by_cases hx : p x = true
    · rw [List.dropWhile_cons, if_pos hx]; exact dropWhile_idem p t
    · rw [List.dropWhile_cons, if_neg hx, List.dropWhile_cons, if_neg hx]
theorem tr_tr (l : List UInt8) : tr (tr l) = tr l := by
  have e : ∀ m, tr m = (rdw blank m).dropWhile blank := fun m => by rw [tr_eq, rdw_comm]
  have r2 : ∀ m, rdw blank (rdw blank m) = rdw blank m := fun m => by unfold rdw; rw [List.reverse_reverse, dropWhile_idem]
  rw [e (tr l), tr_eq l, r2, rdw_comm, dropWhile_idem]
def tagByte (c : UInt8) : Bool := !(decide (c.toNat < 33) || c == 34 || c == 127)
/-- The tag that a text without the sign of weakness is. -/
def tag0 (l : List UInt8) : Option (List UInt8) :=
  match l with
  | [] => none
  | c :: t => if c = 34 ∧ t ≠ [] ∧ t.getLast? = some 34 ∧ t.dropLast.all tagByte = true then some t.dropLast else none
def tagW (l : List UInt8) : Bool := l.take 2 == [87, 47]
/-- The tag that a text is. -/
def tagOf (l : List UInt8) : Bool × List UInt8 × Bool :=
  if l.length > 4000 then (false, [], false)
  else match tag0 (if tagW l = true then l.drop 2 else l) with
    | some m => (tagW l, m, true)
    | none => (false, [], false)
def tagR (r : Bool × List UInt8 × Bool) : Bool × ByteArray × Bool := (r.1, mk r.2.1, r.2.2)
theorem tag0_short (l : List UInt8) (h : l.length < 2) : tag0 l = none := by
  match l, h with
  | [], _ => rfl
  | [c], _ => simp [tag0]
theorem tag0_cons (c : UInt8) (t : List UInt8) : tag0 (c :: t) = if c = 34 ∧ t ≠ [] ∧ t.getLast? = some 34 ∧ t.dropLast.all tagByte = true then some t.dropLast else none := rfl
theorem tagW_short {l : List UInt8} (h : l.length < 2) : tagW l = false := by
  unfold tagW
  rw [List.take_of_length_le (by omega)]
  match l, h with
  | [], _ => rfl
  | [c], _ => simp
/-- The tags of pieces. -/
def tgs : List (List UInt8) → Option (List (Bool × List UInt8))
  | [] => some []
  | x :: t => if (tagOf x).2.2 = true then (tgs t).map (fun m => ((tagOf x).1, (tagOf x).2.1) :: m) else none
theorem tgs_len : ∀ (l : List (List UInt8)) (m : List (Bool × List UInt8)), tgs l = some m → m.length = l.length
  | [], m, h => by simp [tgs] at h; subst h; rfl
  | x :: t, m, h => by
    rw [tgs] at h
    split at h
    · obtain ⟨m', h1, h2⟩ := Option.map_eq_some_iff.1 h
      subst h2
      have := tgs_len t m' h1
      simp [this]
    · cases h
def star (l : List (List UInt8)) : Bool := decide (l = [[42]])
/-- What a list of values is: its tags, whether it is the star, whether it is one. -/
def tagsOf {α : Type} (f : Bool × List UInt8 → α) (l : List (List UInt8)) : List α × Bool × Bool :=
  if star l = true then ([], true, true) else match tgs l with
    | some m => (m.map f, false, decide (((m.map f).length : Int) > 0))
    | none => ([], false, false)
def prt (w : Bool) (m : List UInt8) : List UInt8 := (if w = true then [87, 47] else []) ++ (34 :: m ++ [34])
def prtR (w : Bool) (m : List UInt8) : ByteArray × Bool := if (tagOf (prt w m)).2.2 = true then (mk (prt w m), true) else (mk [], false)
theorem star_head (v : List (List UInt8)) (d : ByteArray) (w : List ByteArray) (hw : w = v.map mk) : (w.length = 1 → ((rdOf d w 0).toList == ([42] : List UInt8)) = star v) ∧ (¬ w.length = 1 → star v = false) := by
  subst hw
  constructor
  · intro h
    rw [List.length_map] at h
    obtain ⟨x, rfl⟩ := List.length_eq_one_iff.1 h
    have : rdOf d ([x].map mk) 0 = mk x := rfl
    rw [this, toList_B, B_mk]
    unfold star
    by_cases e : x = [42]
    · simp [e]
    · rw [beq_eq_false_iff_ne.2 e, decide_eq_false (fun h => e (by simpa using h))]
  · intro h
    unfold star
    refine decide_eq_false (fun e => h (by rw [e]; rfl))
theorem Cut_ok (s : ByteArray) : strings_CutPrefix.f s (⟨#[87, 47]⟩ : ByteArray) = some (if tagW (B s) = true then mk ((B s).drop 2) else s, tagW (B s)) := by
  have hp : stringslite_HasPrefix.f s (⟨#[87, 47]⟩ : ByteArray) = some (tagW (B s)) := by
    unfold stringslite_HasPrefix.f
    have e2 : ((⟨#[87, 47]⟩ : ByteArray).size : Int) = 2 := rfl
    rw [e2]
    by_cases h : (s.size : Int) ≥ 2
    · rw [if_pos h, if_pos (by omega), if_pos (by omega)]
      have : (s.extract 0 (2 : Int).toNat).toList = (B s).take 2 := by rw [toList_B, B_to]; rfl
      rw [this, toList_B]; rfl
    · rw [if_neg h, tagW_short (by rw [← size_B]; omega)]
  unfold strings_CutPrefix.f stringslite_CutPrefix.f
  rw [hp]
  simp only [Option.bind_some]
  by_cases h : tagW (B s) = true
  · have hs : 2 ≤ s.size := by
      rw [size_B]
      by_cases h2 : 2 ≤ (B s).length
      · exact h2
      · rw [tagW_short (by omega)] at h; cases h
    have e2 : ((⟨#[87, 47]⟩ : ByteArray).size : Int) = 2 := rfl
    rw [if_pos h, if_pos h, e2, if_pos (by omega), if_pos (by omega), h]
    simp only [Option.bind_some]
    have : s.extract (2 : Int).toNat s.size = mk ((B s).drop 2) := B_inj (by rw [B_from, B_mk]; rfl)
    rw [this]
  · rw [if_neg h, if_neg h]
    simp only [Bool.not_eq_true] at h
    rw [h]; rfl
theorem may_loop (s : ByteArray) (hs : s.size ≤ 1000000000) : ∀ (l : List UInt8) (i : Nat), (B s).drop i = l → Ev (fun k => etag_may.l0 k s (s.size : Int) (i : Int)) (l.all tagByte)
  | [], i, hl => by
    have := end_drop hl
    exact Ev.step (fun _ => etag_may.l0.eq_2 ..) (Ev.neg (by omega) (Ev.now _))
  | c :: t, i, hl => by
    obtain ⟨h1, h2, h3⟩ := bt_drop hl
    refine Ev.step (fun _ => etag_may.l0.eq_2 ..) (Ev.pos (by omega) (Ev.pos (by omega) (Ev.pos (by omega) ?_)))
    rw [h1, List.all_cons]
    have ih := may_loop s hs t (i + 1) h3
    by_cases a1 : (c.toNat : Int) < 33
    · refine Ev.pos a1 (Ev.konst ?_)
      have : tagByte c = false := by unfold tagByte; rw [decide_eq_true (show c.toNat < 33 by omega)]; rfl
      rw [this]; rfl
    · refine Ev.neg a1 ?_
      by_cases a2 : c = 34
      · refine Ev.pos ((u8_eq c 34 (by omega)).2 a2) (Ev.konst ?_)
        have : tagByte c = false := by rw [a2]; decide
        rw [this]; rfl
      · refine Ev.neg (fun h => a2 ((u8_eq c 34 (by omega)).1 h)) ?_
        by_cases a3 : c = 127
        · refine Ev.pos ((u8_eq c 127 (by omega)).2 a3) (Ev.konst ?_)
          have : tagByte c = false := by rw [a3]; decide
          rw [this]; rfl
        · refine Ev.neg (fun h => a3 ((u8_eq c 127 (by omega)).1 h)) ?_
          have : tagByte c = true := by
            unfold tagByte
            rw [decide_eq_false (show ¬ c.toNat < 33 by omega), beq_eq_false_iff_ne.2 a2, beq_eq_false_iff_ne.2 a3]; rfl
          rw [this, Bool.true_and, wrap_id (by omega) (by omega), cast_succ]
          exact ih
theorem may_ok (s : ByteArray) (hs : s.size ≤ 1000000000) : Ev (fun k => etag_may.f k s) ((B s).all tagByte) := by
  unfold etag_may.f
  exact may_loop s hs (B s) 0 rfl
theorem Parse_ok (s : ByteArray) (hs : s.size ≤ 1000000000) : Ev (fun k => etag_Parse.f k s) (tagR (tagOf (B s))) := by
  unfold etag_Parse.f tagOf
  by_cases h : (s.size : Int) > 4000
  · rw [if_pos (by rw [← size_B]; omega)]
    exact Ev.pos h (Ev.now _)
  · rw [if_neg (by rw [← size_B]; omega)]
    refine Ev.neg h (Ev.bnd (Cut_ok s) ?_)
    dsimp only
    obtain ⟨r, hr, hB⟩ : ∃ r : ByteArray, (if tagW (B s) = true then mk ((B s).drop 2) else s) = r ∧ B r = (if tagW (B s) = true then (B s).drop 2 else B s) := by
      by_cases hw : tagW (B s) = true
      · exact ⟨_, rfl, by rw [if_pos hw, if_pos hw, B_mk]⟩
      · exact ⟨_, rfl, by rw [if_neg hw, if_neg hw]⟩
    have hrs : r.size ≤ s.size := by
      rw [size_B, hB, size_B s]
      split
      · rw [List.length_drop]; omega
      · exact Nat.le_refl _
    rw [hr, ← hB]
    by_cases h2 : (r.size : Int) < 2
    · rw [tag0_short _ (by rw [← size_B]; omega)]
      exact Ev.pos h2 (Ev.now _)
    · refine Ev.neg h2 (Ev.pos (by omega) ?_)
      obtain ⟨c, t, e⟩ : ∃ c t, B r = c :: t := by
        cases hc : B r with
        | nil =>
          have h0 : r.size = 0 := by rw [size_B, hc]; rfl
          omega
        | cons c t => exact ⟨c, t, rfl⟩
      have hsz : r.size = t.length + 1 := by rw [size_B, e]; simp
      have hc : bt r 0 = (c.toNat : Int) := bt_of (i := 0) (by rw [e]; rfl)
      rw [hc, e]
      by_cases e1 : c = 34
      · have w1 : wrap64 ((r.size : Int) - 1) = ((t.length : Nat) : Int) := by rw [wrap_id (by omega) (by omega)]; omega
        have hne : t ≠ [] := fun h => by rw [h] at hsz; simp at hsz; omega
        obtain ⟨d, hd⟩ : ∃ d, t.getLast? = some d := ⟨_, List.getLast?_eq_some_getLast hne⟩
        have hl : bt r ((t.length : Nat) : Int) = (d.toNat : Int) := bt_of (by
          rw [e]
          rw [List.getLast?_eq_getElem?] at hd
          obtain ⟨m, hm⟩ : ∃ m, t.length = m + 1 := ⟨t.length - 1, by cases t with | nil => exact absurd rfl hne | cons _ _ => simp⟩
          rw [hm] at hd ⊢
          simpa using hd)
        rw [w1, hl]
        refine Ev.pos ((u8_eq c 34 (by omega)).2 e1) (Ev.pos (by omega) (Ev.pos (by omega) ?_))
        by_cases e2 : d = 34
        · have hB2 : B (r.extract 1 t.length) = t.dropLast := by
            rw [B_extract, e, List.dropLast_eq_take]; rfl
          have hsz2 : (r.extract 1 t.length).size ≤ 1000000000 := by rw [size_B, hB2, List.length_dropLast]; omega
          have hx : r.extract 1 t.length = mk t.dropLast := B_inj (by rw [hB2]; rfl)
          rw [Int.toNat_natCast]
          refine Ev.pos ((u8_eq d 34 (by omega)).2 e2) (Ev.pos (by omega) (Ev.pos (by omega) (Ev.bind (may_ok _ hsz2) ?_)))
          rw [hB2]
          by_cases e3 : t.dropLast.all tagByte = true
          · have hy : tag0 (c :: t) = some t.dropLast := by rw [tag0_cons, if_pos ⟨e1, hne, by rw [hd, e2], e3⟩]
            rw [hy, hx]
            exact Ev.pos e3 (Ev.now _)
          · have hy : tag0 (c :: t) = none := by rw [tag0_cons, if_neg (fun h => e3 h.2.2.2)]
            rw [hy]
            exact Ev.neg e3 (Ev.now _)
        · have hy : tag0 (c :: t) = none := by rw [tag0_cons, if_neg (fun h => e2 (by have := h.2.2.1; rw [hd] at this; exact Option.some.inj this))]
          rw [hy]
          exact Ev.neg (fun h => e2 ((u8_eq d 34 (by omega)).1 h)) (Ev.now _)
      · have hy : tag0 (c :: t) = none := by rw [tag0_cons, if_neg (fun h => e1 h.1)]
        rw [hy]
        exact Ev.neg (fun h => e1 ((u8_eq c 34 (by omega)).1 h)) (Ev.now _)
theorem Print_ok (w : Bool) (m : ByteArray) (hm : m.size ≤ 1100000) : Ev (fun k => etag_Print.f k w m) (prtR w (B m)) := by
  unfold etag_Print.f
  have e1 : ((⟨#[34]⟩ : ByteArray) ++ m).size = 1 + m.size := by rw [size_B, B_append, List.length_append, ← size_B, ← size_B]; rfl
  have e2 : (((⟨#[34]⟩ : ByteArray) ++ m) ++ (⟨#[34]⟩ : ByteArray)).size = 2 + m.size := by rw [size_B, B_append, List.length_append, ← size_B, ← size_B, e1]; show 1 + m.size + 1 = _; omega
  have b2 : B (((⟨#[34]⟩ : ByteArray) ++ m) ++ (⟨#[34]⟩ : ByteArray)) = 34 :: B m ++ [34] := by rw [B_append, B_append]; rfl
  refine Ev.pos (by omega) (Ev.pos (by omega) ?_)
  cases w with
  | true =>
    have b3 : B ((⟨#[87, 47]⟩ : ByteArray) ++ (((⟨#[34]⟩ : ByteArray) ++ m) ++ (⟨#[34]⟩ : ByteArray))) = prt true (B m) := by rw [B_append, b2]; rfl
    have e3 : ((⟨#[87, 47]⟩ : ByteArray) ++ (((⟨#[34]⟩ : ByteArray) ++ m) ++ (⟨#[34]⟩ : ByteArray))).size ≤ 1000000000 := by rw [size_B, b3]; simp [prt, ← size_B]; omega
    have hx : (⟨#[87, 47]⟩ : ByteArray) ++ (((⟨#[34]⟩ : ByteArray) ++ m) ++ (⟨#[34]⟩ : ByteArray)) = mk (prt true (B m)) := B_inj (by rw [b3]; rfl)
    refine Ev.pos rfl (Ev.pos (by omega) ?_)
    rw [hx] at e3 ⊢
    refine Ev.bind (Parse_ok _ e3) ?_
    rw [B_mk]
    unfold prtR
    by_cases h : (tagOf (prt true (B m))).2.2 = true
    · rw [if_pos h]; exact Ev.pos h (Ev.now _)
    · rw [if_neg h]; exact Ev.neg h (Ev.now _)
  | false =>
    have hx : (((⟨#[34]⟩ : ByteArray) ++ m) ++ (⟨#[34]⟩ : ByteArray)) = mk (prt false (B m)) := B_inj (by rw [b2]; rfl)
    have e3 := e2
    rw [hx] at e3
    refine Ev.neg (by simp) ?_
    rw [hx]
    refine Ev.bind (Parse_ok _ (by omega)) ?_
    rw [B_mk]
    unfold prtR
    by_cases h : (tagOf (prt false (B m))).2.2 = true
    · rw [if_pos h]; exact Ev.pos h (Ev.now _)
    · rw [if_neg h]; exact Ev.neg h (Ev.now _)
theorem prt_tag0 (m : List UInt8) : tag0 (34 :: (m ++ [34])) = if m.all tagByte = true then some m else none := by
  rw [tag0_cons]
  have h1 : (m ++ [34] : List UInt8) ≠ [] := by simp
  have h2 : (m ++ [34] : List UInt8).getLast? = some 34 := by simp
  have h3 : (m ++ [34] : List UInt8).dropLast = m := by simp
  rw [h2, h3]
  by_cases h : m.all tagByte = true
  · rw [if_pos ⟨rfl, h1, rfl, h⟩, if_pos h]
  · rw [if_neg (fun z => h z.2.2.2), if_neg h]
theorem prt_W (w : Bool) (m : List UInt8) : tagW (prt w m) = w ∧ (if w = true then (prt w m).drop 2 else prt w m) = 34 :: (m ++ [34]) := by
  cases w with
  | true => exact ⟨rfl, by simp [prt]⟩
  | false =>
    refine ⟨?_, by simp [prt]⟩
    unfold tagW prt
    cases m with
    | nil => decide
    | cons c t => simp
theorem prt_tag {w : Bool} {m : List UInt8} (h : (tagOf (prt w m)).2.2 = true) : tagOf (prt w m) = (w, m, true) ∧ m.all tagByte = true := by
  obtain ⟨h1, h2⟩ := prt_W w m
  unfold tagOf at h ⊢
  rw [h1] at h ⊢
  by_cases hl : (prt w m).length > 4000
  · rw [if_pos hl] at h; simp at h
  · rw [if_neg hl] at h ⊢
    rw [h2, prt_tag0] at h ⊢
    by_cases ha : m.all tagByte = true
    · rw [if_pos ha]; exact ⟨rfl, ha⟩
    · rw [if_neg ha] at h; simp at h
/-- What is read is printed just so. -/
theorem tag_prt {l : List UInt8} (h : (tagOf l).2.2 = true) : prt (tagOf l).1 (tagOf l).2.1 = l := by
  unfold tagOf at h ⊢
  by_cases hl : l.length > 4000
  · rw [if_pos hl] at h; simp at h
  · rw [if_neg hl] at h ⊢
    cases ht : tag0 (if tagW l = true then l.drop 2 else l) with
    | none => rw [ht] at h; simp at h
    | some m =>
      dsimp only
      have key : (if tagW l = true then l.drop 2 else l) = 34 :: (m ++ [34]) := by
        cases hr : (if tagW l = true then l.drop 2 else l) with
        | nil => rw [hr] at ht; simp [tag0] at ht
        | cons c t =>
          rw [hr, tag0_cons] at ht
          split at ht
          · rename_i hc
            obtain ⟨c1, c2, c3, c4⟩ := hc
            have e := Option.some.inj ht
            subst c1
            rw [← e]
            have : t = t.dropLast ++ [t.getLast c2] := (List.dropLast_concat_getLast c2).symm
            rw [List.getLast?_eq_some_getLast c2] at c3
            rw [Option.some.inj c3] at this
            rw [← this]
          · cases ht
      unfold prt
      by_cases hw : tagW l = true
      · rw [if_pos hw] at key
        rw [if_pos hw]
        have h2 : l.take 2 = [87, 47] := by unfold tagW at hw; exact eq_of_beq hw
        rw [← List.take_append_drop 2 l, h2, key]; rfl
      · rw [if_neg hw] at key
        rw [if_neg hw, key]; rfl
/-- A text cut at a byte. -/
def spl (c : UInt8) : List UInt8 → List (List UInt8)
  | [] => [[]]
  | b :: t => if b = c then [] :: spl c t else (b :: (spl c t).headD []) :: (spl c t).tail
theorem spl_ne (c : UInt8) (l : List UInt8) : spl c l ≠ [] := by
  cases l with
  | nil => simp [spl]
  | cons b t => unfold spl; split <;> simp
theorem spl_whole (c : UInt8) : ∀ p : List UInt8, c ∉ p → spl c p = [p]
  | [], _ => rfl
  | b :: t, h => by
    have hb : b ≠ c := fun e => h (by simp [e])
    rw [spl, if_neg hb, spl_whole c t (fun e => h (by simp [e]))]; rfl
theorem spl_cut (c : UInt8) (r : List UInt8) : ∀ p : List UInt8, c ∉ p → spl c (p ++ c :: r) = p :: spl c r
  | [], _ => by simp [spl]
  | b :: t, h => by
    have hb : b ≠ c := fun e => h (by simp [e])
    rw [List.cons_append, spl, if_neg hb, spl_cut c r t (fun e => h (by simp [e]))]; rfl
theorem spl_one (c : UInt8) : ∀ l p : List UInt8, spl c l = [p] → l = p ∧ c ∉ p
  | [], p, h => by simp [spl] at h; subst h; simp
  | b :: t, p, h => by
    unfold spl at h
    split at h
    · injection h with h1 h2; exact absurd h2 (spl_ne c t)
    · rename_i hb
      injection h with h1 h2
      have ht : spl c t = [(spl c t).headD []] := by
        cases hs : spl c t with
        | nil => exact absurd hs (spl_ne c t)
        | cons a r => rw [hs] at h2; simp at h2; rw [h2]; rfl
      obtain ⟨e1, e2⟩ := spl_one c t _ ht
      rw [← h1]
      refine ⟨by rw [← e1], ?_⟩
      intro e
      rcases List.mem_cons.1 e with q | q
      · exact hb q.symm
      · exact e2 q
theorem spl_more (c : UInt8) : ∀ l p q r, spl c l = p :: q :: r → ∃ m, l = p ++ c :: m ∧ c ∉ p ∧ spl c m = q :: r
  | [], p, q, r, h => by simp [spl] at h
  | b :: t, p, q, r, h => by
    unfold spl at h
    split at h
    · rename_i hb
      injection h with h1 h2
      exact ⟨t, by rw [← h1, hb]; rfl, by rw [← h1]; simp, h2⟩
    · rename_i hb
      injection h with h1 h2
      have ht : spl c t = (spl c t).headD [] :: q :: r := by
        cases hs : spl c t with
        | nil => exact absurd hs (spl_ne c t)
        | cons a r' => rw [hs] at h2; simp at h2; rw [h2]; rfl
      obtain ⟨m, e1, e2, e3⟩ := spl_more c t _ q r ht
      refine ⟨m, by rw [← h1, List.cons_append, ← e1], ?_, e3⟩
      rw [← h1]
      intro e
      rcases List.mem_cons.1 e with q | q
      · exact hb q.symm
      · exact e2 q
theorem spl3 {c : UInt8} {l p0 p1 p2 : List UInt8} (h : spl c l = [p0, p1, p2]) : l = p0 ++ c :: (p1 ++ c :: p2) ∧ c ∉ p0 ∧ c ∉ p1 ∧ c ∉ p2 := by
  obtain ⟨m, rfl, h0, h⟩ := spl_more c _ _ _ _ h
  obtain ⟨m, rfl, h1, h⟩ := spl_more c _ _ _ _ h
  obtain ⟨rfl, h2⟩ := spl_one c _ _ h
  exact ⟨rfl, h0, h1, h2⟩
theorem spl3' {c : UInt8} {p0 p1 p2 : List UInt8} (h0 : c ∉ p0) (h1 : c ∉ p1) (h2 : c ∉ p2) : spl c (p0 ++ c :: (p1 ++ c :: p2)) = [p0, p1, p2] := by
  rw [spl_cut c _ _ h0, spl_cut c _ _ h1, spl_whole c _ h2]
theorem spl4 {c : UInt8} {l p0 p1 p2 p3 : List UInt8} (h : spl c l = [p0, p1, p2, p3]) : l = p0 ++ c :: (p1 ++ c :: (p2 ++ c :: p3)) ∧ c ∉ p0 ∧ c ∉ p1 ∧ c ∉ p2 ∧ c ∉ p3 := by
  obtain ⟨m, rfl, h0, h⟩ := spl_more c _ _ _ _ h
  obtain ⟨rfl, q⟩ := spl3 h
  exact ⟨rfl, h0, q⟩
theorem spl4' {c : UInt8} {p0 p1 p2 p3 : List UInt8} (h0 : c ∉ p0) (h1 : c ∉ p1) (h2 : c ∉ p2) (h3 : c ∉ p3) : spl c (p0 ++ c :: (p1 ++ c :: (p2 ++ c :: p3))) = [p0, p1, p2, p3] := by
  rw [spl_cut c _ _ h0, spl3' h1 h2 h3]
theorem spl6 {c : UInt8} {l p0 p1 p2 p3 p4 p5 : List UInt8} (h : spl c l = [p0, p1, p2, p3, p4, p5]) : l = p0 ++ c :: (p1 ++ c :: (p2 ++ c :: (p3 ++ c :: (p4 ++ c :: p5)))) ∧ c ∉ p0 ∧ c ∉ p1 ∧ c ∉ p2 ∧ c ∉ p3 ∧ c ∉ p4 ∧ c ∉ p5 := by
  obtain ⟨m, rfl, h0, h⟩ := spl_more c _ _ _ _ h
  obtain ⟨m, rfl, h1, h⟩ := spl_more c _ _ _ _ h
  obtain ⟨rfl, q⟩ := spl4 h
  exact ⟨rfl, h0, h1, q⟩
theorem spl6' {c : UInt8} {p0 p1 p2 p3 p4 p5 : List UInt8} (h0 : c ∉ p0) (h1 : c ∉ p1) (h2 : c ∉ p2) (h3 : c ∉ p3) (h4 : c ∉ p4) (h5 : c ∉ p5) : spl c (p0 ++ c :: (p1 ++ c :: (p2 ++ c :: (p3 ++ c :: (p4 ++ c :: p5))))) = [p0, p1, p2, p3, p4, p5] := by
  rw [spl_cut c _ _ h0, spl_cut c _ _ h1, spl4' h2 h3 h4 h5]
theorem spl_hd (c : UInt8) : ∀ (p r : List UInt8), c ∉ p → (spl c (p ++ c :: r)).head? = some p := fun p r h => by rw [spl_cut c r p h]; rfl
theorem splK_cons (c b : UInt8) (h : b ≠ c) : ∀ (k : Nat) (t : List UInt8), Lib.splitK [c] 0 k (b :: t) = (b :: (Lib.splitK [c] 0 k t).headD []) :: (Lib.splitK [c] 0 k t).tail
  | 0, t => rfl
  | k + 1, t => by
    have hp : ([c] : List UInt8).isPrefixOf (b :: t) = false := by simp [List.isPrefixOf, Ne.symm h]
    have hix : Lib.index (b :: t) [c] = if Lib.index t [c] == -1 then -1 else Lib.index t [c] + 1 := by rw [Lib.index, hp]; simp
    have hge := Lib.index_ge t [c]
    unfold Lib.splitK
    rw [hix]
    by_cases hm : Lib.index t [c] = -1
    · simp [hm]
    · have e1 : (Lib.index t [c] == -1) = false := by simpa using hm
      have e2 : (Lib.index t [c] + 1 == -1) = false := by simp; omega
      obtain ⟨j, hj⟩ : ∃ j : Nat, Lib.index t [c] = j := ⟨(Lib.index t [c]).toNat, by omega⟩
      rw [e1]
      simp only [Bool.false_eq_true, if_false]
      rw [e2]
      simp only [Bool.false_eq_true, if_false, hj, List.headD_cons, List.tail_cons, List.length_singleton]
      have e3 : ((j : Int) + 1).toNat = j + 1 := by omega
      rw [e3, Int.toNat_natCast]
      rfl
theorem splK_eq (c : UInt8) : ∀ l : List UInt8, Lib.splitK [c] 0 (Lib.count l [c]) l = spl c l
  | [] => by
    have : Lib.index [] [c] = -1 := rfl
    rw [Lib.count_miss this]; rfl
  | b :: t => by
    by_cases h : b = c
    · subst h
      have hix : Lib.index (b :: t) [b] = 0 := by rw [Lib.index]; simp [List.isPrefixOf]
      rw [Lib.count_cons_eq, Nat.add_comm, Lib.splitK, hix, spl, if_pos rfl, ← splK_eq b t]
      rfl
    · rw [Lib.count_cons_ne b c t h, splK_cons c b h, splK_eq c t, spl, if_neg h]
theorem splB_eq (c : UInt8) (s : ByteArray) : Lib.splitB (⟨#[c]⟩ : ByteArray) 0 (Lib.countB s (⟨#[c]⟩ : ByteArray)) s = (spl c (B s)).map mk := by
  have h := Lib.splitB_data (⟨#[c]⟩ : ByteArray) 0 (Lib.countB s (⟨#[c]⟩ : ByteArray)) s
  have e : Lib.splitK [c] 0 (Lib.countB s (⟨#[c]⟩ : ByteArray)) s.data.toList = spl c (B s) := splK_eq c (B s)
  rw [← e]
  have h2 : ∀ l : List ByteArray, l = (l.map (·.data.toList)).map mk := fun l => by
    rw [List.map_map]; simp [Function.comp_def, mk]
  rw [h2 (Lib.splitB _ _ _ _), h]
theorem mk_size (l : List UInt8) : (mk l).size = l.length := size_B (mk l)
def numV : List UInt8 → Int → Int
  | [], n => n
  | c :: t, n => if (c.toNat : Int) < 48 then -1 else if (c.toNat : Int) > 57 then -1 else numV t (n * 10 + ((c.toNat : Int) - 48))
/-- So many digits, as a number; -1: they are none. -/
def num (l : List UInt8) (w : Nat) : Int := if l.length = w then numV l 0 else -1
theorem numV_facts : ∀ (t : List UInt8) (n : Int), 0 ≤ n → 0 ≤ numV t n → (∀ c ∈ t, 48 ≤ c.toNat ∧ c.toNat ≤ 57) ∧ numV t n < (n + 1) * 10 ^ t.length
  | [], n, h0, h => by simp [numV]; omega
  | c :: t, n, h0, h => by
    unfold numV at h ⊢
    by_cases a : (c.toNat : Int) < 48
    · rw [if_pos a] at h; omega
    · rw [if_neg a] at h ⊢
      by_cases b : (c.toNat : Int) > 57
      · rw [if_pos b] at h; omega
      · rw [if_neg b] at h ⊢
        obtain ⟨h1, h2⟩ := numV_facts t _ (by omega) h
        refine ⟨fun x hx => ?_, ?_⟩
        · rcases List.mem_cons.1 hx with rfl | q
          · omega
          · exact h1 x q
        · rw [List.length_cons, Int.pow_succ, Int.mul_comm (10 ^ t.length) 10, ← Int.mul_assoc]
          refine Int.lt_of_lt_of_le h2 (Int.mul_le_mul_of_nonneg_right (by omega) (Int.pow_nonneg (by omega)))
theorem num_facts {l : List UInt8} {w : Nat} (h : 0 ≤ num l w) : l.length = w ∧ (∀ c ∈ l, 48 ≤ c.toNat ∧ c.toNat ≤ 57) ∧ num l w < 10 ^ w := by
  unfold num at h ⊢
  by_cases e : l.length = w
  · rw [if_pos e] at h ⊢
    obtain ⟨a, b⟩ := numV_facts l 0 (by omega) h
    rw [e] at b
    exact ⟨e, a, by simpa using b⟩
  · rw [if_neg e] at h; omega
theorem digit_ne {l : List UInt8} (h : ∀ c ∈ l, 48 ≤ c.toNat ∧ c.toNat ≤ 57) (d : UInt8) (hd : d.toNat < 48 ∨ 57 < d.toNat) : d ∉ l := fun e => by
  have := h d e; omega
theorem num_ge (l : List UInt8) (w : Nat) : -1 ≤ num l w := by
  unfold num
  split
  · have : ∀ (t : List UInt8) (n : Int), 0 ≤ n → -1 ≤ numV t n := by
      intro t
      induction t with
      | nil => intro n h; simp [numV]; omega
      | cons c t ih =>
        intro n h
        unfold numV
        split
        · omega
        · split
          · omega
          · exact ih _ (by omega)
    exact this l 0 (by omega)
  · omega
theorem pow_small (n : Nat) (t : List UInt8) {x : Int} (h0 : 0 ≤ x) (h : (x + 1) * 10 ^ t.length ≤ 1000000000000000000) : x < 1000000000000000000 := by
  have : (0 : Int) < 10 ^ t.length := Int.pow_pos (by omega)
  have : x + 1 ≤ (x + 1) * 10 ^ t.length := by
    have := Int.mul_le_mul_of_nonneg_left (show (1 : Int) ≤ 10 ^ t.length by omega) (show 0 ≤ x + 1 by omega)
    omega
  omega
theorem ten_pow {w : Nat} (h : w ≤ 18) : (10 : Int) ^ w ≤ 1000000000000000000 := by
  have h1 := Nat.pow_le_pow_right (show 0 < 10 by omega) h
  have h2 : ((10 ^ w : Nat) : Int) = (10 : Int) ^ w := by rw [Int.natCast_pow]; rfl
  omega
theorem num_next {n d : Int} {t : List UInt8} {c : UInt8} (h : (n + 1) * 10 ^ (c :: t).length ≤ 1000000000000000000) (hd : d ≤ 9) : (n * 10 + d + 1) * 10 ^ t.length ≤ 1000000000000000000 := by
  refine Int.le_trans ?_ h
  rw [List.length_cons, Int.pow_succ, Int.mul_comm (10 ^ t.length) 10, ← Int.mul_assoc]
  exact Int.mul_le_mul_of_nonneg_right (by omega) (Int.pow_nonneg (by omega))
theorem len_cons {α : Type} {l : List α} {n : Nat} (h : l.length = n + 1) : ∃ a t, l = a :: t ∧ t.length = n := by
  cases l with
  | nil => simp at h
  | cons a t => exact ⟨a, t, rfl, by simpa using h⟩
theorem len2 {α : Type} {l0 : List α} (h0 : l0.length = 2) : ∃ a0 a1, l0 = [a0, a1] := by
  obtain ⟨a0, l1, rfl, h1⟩ := len_cons h0
  obtain ⟨a1, l2, rfl, h2⟩ := len_cons h1
  obtain rfl : l2 = [] := List.eq_nil_of_length_eq_zero h2
  exact ⟨_, _, rfl⟩
theorem len3 {α : Type} {l0 : List α} (h0 : l0.length = 3) : ∃ a0 a1 a2, l0 = [a0, a1, a2] := by
  obtain ⟨a0, l1, rfl, h1⟩ := len_cons h0
  obtain ⟨a1, l2, rfl, h2⟩ := len_cons h1
  obtain ⟨a2, l3, rfl, h3⟩ := len_cons h2
  obtain rfl : l3 = [] := List.eq_nil_of_length_eq_zero h3
  exact ⟨_, _, _, rfl⟩
theorem len4 {α : Type} {l0 : List α} (h0 : l0.length = 4) : ∃ a0 a1 a2 a3, l0 = [a0, a1, a2, a3] := by
  obtain ⟨a0, l1, rfl, h1⟩ := len_cons h0
  obtain ⟨a1, l2, rfl, h2⟩ := len_cons h1
  obtain ⟨a2, l3, rfl, h3⟩ := len_cons h2
  obtain ⟨a3, l4, rfl, h4⟩ := len_cons h3
  obtain rfl : l4 = [] := List.eq_nil_of_length_eq_zero h4
  exact ⟨_, _, _, _, rfl⟩
theorem len8 {α : Type} {l0 : List α} (h0 : l0.length = 8) : ∃ a0 a1 a2 a3 a4 a5 a6 a7, l0 = [a0, a1, a2, a3, a4, a5, a6, a7] := by
  obtain ⟨a0, l1, rfl, h1⟩ := len_cons h0
  obtain ⟨a1, l2, rfl, h2⟩ := len_cons h1
  obtain ⟨a2, l3, rfl, h3⟩ := len_cons h2
  obtain ⟨a3, l4, rfl, h4⟩ := len_cons h3
  obtain ⟨a4, l5, rfl, h5⟩ := len_cons h4
  obtain ⟨a5, l6, rfl, h6⟩ := len_cons h5
  obtain ⟨a6, l7, rfl, h7⟩ := len_cons h6
  obtain ⟨a7, l8, rfl, h8⟩ := len_cons h7
  obtain rfl : l8 = [] := List.eq_nil_of_length_eq_zero h8
  exact ⟨_, _, _, _, _, _, _, _, rfl⟩
theorem len24 {α : Type} {l0 : List α} (h0 : l0.length = 24) : ∃ a0 a1 a2 a3 a4 a5 a6 a7 a8 a9 a10 a11 a12 a13 a14 a15 a16 a17 a18 a19 a20 a21 a22 a23, l0 = [a0, a1, a2, a3, a4, a5, a6, a7, a8, a9, a10, a11, a12, a13, a14, a15, a16, a17, a18, a19, a20, a21, a22, a23] := by
  obtain ⟨a0, l1, rfl, h1⟩ := len_cons h0
  obtain ⟨a1, l2, rfl, h2⟩ := len_cons h1
  obtain ⟨a2, l3, rfl, h3⟩ := len_cons h2
  obtain ⟨a3, l4, rfl, h4⟩ := len_cons h3
  obtain ⟨a4, l5, rfl, h5⟩ := len_cons h4
  obtain ⟨a5, l6, rfl, h6⟩ := len_cons h5
  obtain ⟨a6, l7, rfl, h7⟩ := len_cons h6
  obtain ⟨a7, l8, rfl, h8⟩ := len_cons h7
  obtain ⟨a8, l9, rfl, h9⟩ := len_cons h8
  obtain ⟨a9, l10, rfl, h10⟩ := len_cons h9
  obtain ⟨a10, l11, rfl, h11⟩ := len_cons h10
  obtain ⟨a11, l12, rfl, h12⟩ := len_cons h11
  obtain ⟨a12, l13, rfl, h13⟩ := len_cons h12
  obtain ⟨a13, l14, rfl, h14⟩ := len_cons h13
  obtain ⟨a14, l15, rfl, h15⟩ := len_cons h14
  obtain ⟨a15, l16, rfl, h16⟩ := len_cons h15
  obtain ⟨a16, l17, rfl, h17⟩ := len_cons h16
  obtain ⟨a17, l18, rfl, h18⟩ := len_cons h17
  obtain ⟨a18, l19, rfl, h19⟩ := len_cons h18
  obtain ⟨a19, l20, rfl, h20⟩ := len_cons h19
  obtain ⟨a20, l21, rfl, h21⟩ := len_cons h20
  obtain ⟨a21, l22, rfl, h22⟩ := len_cons h21
  obtain ⟨a22, l23, rfl, h23⟩ := len_cons h22
  obtain ⟨a23, l24, rfl, h24⟩ := len_cons h23
  obtain rfl : l24 = [] := List.eq_nil_of_length_eq_zero h24
  exact ⟨_, _, _, _, _, _, _, _, _, _, _, _, _, _, _, _, _, _, _, _, _, _, _, _, rfl⟩
theorem len29 {α : Type} {l0 : List α} (h0 : l0.length = 29) : ∃ a0 a1 a2 a3 a4 a5 a6 a7 a8 a9 a10 a11 a12 a13 a14 a15 a16 a17 a18 a19 a20 a21 a22 a23 a24 a25 a26 a27 a28, l0 = [a0, a1, a2, a3, a4, a5, a6, a7, a8, a9, a10, a11, a12, a13, a14, a15, a16, a17, a18, a19, a20, a21, a22, a23, a24, a25, a26, a27, a28] := by
  obtain ⟨a0, l1, rfl, h1⟩ := len_cons h0
  obtain ⟨a1, l2, rfl, h2⟩ := len_cons h1
  obtain ⟨a2, l3, rfl, h3⟩ := len_cons h2
  obtain ⟨a3, l4, rfl, h4⟩ := len_cons h3
  obtain ⟨a4, l5, rfl, h5⟩ := len_cons h4
  obtain ⟨a5, l6, rfl, h6⟩ := len_cons h5
  obtain ⟨a6, l7, rfl, h7⟩ := len_cons h6
  obtain ⟨a7, l8, rfl, h8⟩ := len_cons h7
  obtain ⟨a8, l9, rfl, h9⟩ := len_cons h8
  obtain ⟨a9, l10, rfl, h10⟩ := len_cons h9
  obtain ⟨a10, l11, rfl, h11⟩ := len_cons h10
  obtain ⟨a11, l12, rfl, h12⟩ := len_cons h11
  obtain ⟨a12, l13, rfl, h13⟩ := len_cons h12
  obtain ⟨a13, l14, rfl, h14⟩ := len_cons h13
  obtain ⟨a14, l15, rfl, h15⟩ := len_cons h14
  obtain ⟨a15, l16, rfl, h16⟩ := len_cons h15
  obtain ⟨a16, l17, rfl, h17⟩ := len_cons h16
  obtain ⟨a17, l18, rfl, h18⟩ := len_cons h17
  obtain ⟨a18, l19, rfl, h19⟩ := len_cons h18
  obtain ⟨a19, l20, rfl, h20⟩ := len_cons h19
  obtain ⟨a20, l21, rfl, h21⟩ := len_cons h20
  obtain ⟨a21, l22, rfl, h22⟩ := len_cons h21
  obtain ⟨a22, l23, rfl, h23⟩ := len_cons h22
  obtain ⟨a23, l24, rfl, h24⟩ := len_cons h23
  obtain ⟨a24, l25, rfl, h25⟩ := len_cons h24
  obtain ⟨a25, l26, rfl, h26⟩ := len_cons h25
  obtain ⟨a26, l27, rfl, h27⟩ := len_cons h26
  obtain ⟨a27, l28, rfl, h28⟩ := len_cons h27
  obtain ⟨a28, l29, rfl, h29⟩ := len_cons h28
  obtain rfl : l29 = [] := List.eq_nil_of_length_eq_zero h29
  exact ⟨_, _, _, _, _, _, _, _, _, _, _, _, _, _, _, _, _, _, _, _, _, _, _, _, _, _, _, _, _, rfl⟩
/-- Hours, minutes, seconds, and whether they are any. -/
def clkR (l : List UInt8) : Int × Int × Int × Bool :=
  if l.length = 8 ∧ l[2]? = some 58 ∧ l[5]? = some 58 then (num (l.take 2) 2, num ((l.drop 3).take 2) 2, num (l.drop 6) 2, decide (0 ≤ num (l.take 2) 2 ∧ 0 ≤ num ((l.drop 3).take 2) 2 ∧ 0 ≤ num (l.drop 6) 2)) else (0, 0, 0, false)
def clkQ : List (List UInt8) → Int × Int × Int
  | [a, b, c] => (num a 2, num b 2, num c 2)
  | _ => (-1, -1, -1)
def clkP (l : List UInt8) : Int × Int × Int := clkQ (spl 58 l)
theorem clkQ_good (L : List (List UInt8)) (h : 0 ≤ (clkQ L).1) : ∃ a b c, L = [a, b, c] := by
  match L, h with
  | [a, b, c], _ => exact ⟨a, b, c, rfl⟩
  | [], h => exact absurd h (by decide)
  | [_], h => exact absurd h (show ¬ (0 : Int) ≤ -1 by decide)
  | [_, _], h => exact absurd h (show ¬ (0 : Int) ≤ -1 by decide)
  | _ :: _ :: _ :: _ :: _, h => exact absurd h (show ¬ (0 : Int) ≤ -1 by decide)
theorem clk_shape {l : List UInt8} (h : (clkR l).2.2.2 = true) : ∃ a b c : List UInt8, l = a ++ 58 :: (b ++ 58 :: c) ∧ a.length = 2 ∧ b.length = 2 ∧ c.length = 2 ∧ 0 ≤ num a 2 ∧ 0 ≤ num b 2 ∧ 0 ≤ num c 2 := by
  unfold clkR at h
  by_cases g : l.length = 8 ∧ l[2]? = some 58 ∧ l[5]? = some 58
  · rw [if_pos g] at h
    obtain ⟨g0, g1, g2⟩ := g
    obtain ⟨a0, a1, a2, a3, a4, a5, a6, a7, rfl⟩ := len8 g0
    obtain rfl : a2 = 58 := Option.some.inj g1
    obtain rfl : a5 = 58 := Option.some.inj g2
    have q := of_decide_eq_true h
    exact ⟨[a0, a1], [a3, a4], [a6, a7], rfl, rfl, rfl, rfl, q⟩
  · rw [if_neg g] at h; cases h
theorem clkR_of {a b c : List UInt8} (ha : a.length = 2) (hb : b.length = 2) (hc : c.length = 2) : clkR (a ++ 58 :: (b ++ 58 :: c)) = (num a 2, num b 2, num c 2, decide (0 ≤ num a 2 ∧ 0 ≤ num b 2 ∧ 0 ≤ num c 2)) := by
  obtain ⟨a0, a1, rfl⟩ := len2 ha
  obtain ⟨b0, b1, rfl⟩ := len2 hb
  obtain ⟨c0, c1, rfl⟩ := len2 hc
  rfl
theorem clk_eq (l : List UInt8) : ((clkR l).2.2.2 = true ∧ clkP l = ((clkR l).1, (clkR l).2.1, (clkR l).2.2.1) ∧ 0 ≤ (clkR l).1 ∧ 0 ≤ (clkR l).2.1 ∧ 0 ≤ (clkR l).2.2.1) ∨ ((clkR l).2.2.2 = false ∧ ¬ (0 ≤ (clkP l).1 ∧ 0 ≤ (clkP l).2.1 ∧ 0 ≤ (clkP l).2.2)) := by
  by_cases h : (clkR l).2.2.2 = true
  · refine .inl ⟨h, ?_⟩
    obtain ⟨a, b, c, rfl, ha, hb, hc, na, nb, nc⟩ := clk_shape h
    rw [clkR_of ha hb hc]
    refine ⟨?_, na, nb, nc⟩
    have da := digit_ne (num_facts na).2.1 58 (by decide)
    have db := digit_ne (num_facts nb).2.1 58 (by decide)
    have dc := digit_ne (num_facts nc).2.1 58 (by decide)
    unfold clkP
    rw [spl3' da db dc]
    rfl
  · refine .inr ⟨by simpa using h, fun g => h ?_⟩
    obtain ⟨a, b, c, e⟩ := clkQ_good _ g.1
    obtain ⟨el, -, -, -⟩ := spl3 e
    unfold clkP at g
    rw [e] at g
    have ha := (num_facts g.1).1
    have hb := (num_facts g.2.1).1
    have hc := (num_facts g.2.2).1
    rw [el, clkR_of ha hb hc]
    exact decide_eq_true g
theorem clk_no (l : List UInt8) (h : (clkR l).2.2.2 = true) (d : UInt8) (hd : d.toNat < 48 ∨ 58 < d.toNat) : d ∉ l := by
  obtain ⟨a, b, c, rfl, -, -, -, na, nb, nc⟩ := clk_shape h
  have da := digit_ne (num_facts na).2.1 d (by omega)
  have db := digit_ne (num_facts nb).2.1 d (by omega)
  have dc := digit_ne (num_facts nc).2.1 d (by omega)
  have d8 : d ≠ 58 := fun e => by rw [e] at hd; revert hd; decide
  simp [da, db, dc, d8]
theorem clk_len {l : List UInt8} (h : (clkR l).2.2.2 = true) : l.length = 8 := by
  obtain ⟨a, b, c, rfl, ha, hb, hc, -⟩ := clk_shape h
  simp [ha, hb, hc]
def leapY (y : Int) : Bool := decide (y % 4 = 0) && (decide (y % 100 ≠ 0) || decide (y % 400 = 0))
def lenM (y m : Int) : Int := if m = 2 then (if leapY y = true then 29 else 28) else if m = 4 ∨ m = 6 ∨ m = 9 ∨ m = 11 then 30 else 31
theorem lenM_range (y m : Int) : 28 ≤ lenM y m ∧ lenM y m ≤ 31 := by unfold lenM; split <;> split <;> omega
/-- How many days from 1970 on a year begins. -/
def firstY (y : Int) : Int := (y - 1) * 365 + (y - 1) / 4 - (y - 1) / 100 + (y - 1) / 400 - 719162
theorem firstY_next (y : Int) : firstY (y + 1) = firstY y + (if leapY y = true then 366 else 365) := by
  unfold firstY leapY
  by_cases a : y % 4 = 0
  · by_cases b : y % 100 = 0
    · by_cases c : y % 400 = 0
      · simp [a, b, c]; omega
      · simp [a, b, c]; omega
    · simp [a, b]; omega
  · simp [a]; omega
theorem firstY_lt {y : Int} : firstY y + 365 ≤ firstY (y + 1) ∧ firstY (y + 1) ≤ firstY y + 366 := by
  rw [firstY_next]; split <;> omega
theorem firstY_mono (y : Int) : ∀ n : Nat, firstY y + 365 * n ≤ firstY (y + n) ∧ firstY (y + n) ≤ firstY y + 366 * n
  | 0 => by simp
  | n + 1 => by
    have h := firstY_mono y n
    have q := firstY_lt (y := y + n)
    rw [show y + ((n + 1 : Nat) : Int) = y + n + 1 by omega]
    omega
theorem firstY_le {a b : Int} (h : a ≤ b) : firstY a ≤ firstY b := by
  obtain ⟨n, hn⟩ : ∃ n : Nat, b = a + n := ⟨(b - a).toNat, by omega⟩
  have := firstY_mono a n
  rw [hn]; omega
theorem firstY_strict {a b : Int} (h : a < b) : firstY a + 365 ≤ firstY b := by
  have := firstY_le (show a + 1 ≤ b by omega)
  have := firstY_lt (y := a)
  omega
theorem tmod_pos {a : Int} (h : 0 ≤ a) (n : Int) : Int.tmod a n = a % n := Int.tmod_eq_emod_of_nonneg h
theorem tdiv_pos {a : Int} (h : 0 ≤ a) (n : Int) : Int.tdiv a n = a / n := Int.tdiv_eq_ediv_of_nonneg h
theorem firstY_range {y : Int} (h0 : 1 ≤ y) (h1 : y ≤ 10001) : -719162 ≤ firstY y ∧ firstY y ≤ 3000000 := by
  unfold firstY; omega
/-- The days of a year's first months. -/
def sumM (y : Int) : Nat → Int
  | 0 => 0
  | n + 1 => sumM y n + lenM y (n + 1)
theorem sumM_range (y : Int) : ∀ n : Nat, 28 * (n : Int) ≤ sumM y n ∧ sumM y n ≤ 31 * (n : Int)
  | 0 => by simp [sumM]
  | n + 1 => by
    have := sumM_range y n
    have := lenM_range y (n + 1)
    simp only [sumM]
    omega
theorem sumM_year (y : Int) : firstY (y + 1) = firstY y + sumM y 12 := by
  rw [firstY_next]
  unfold sumM sumM sumM sumM sumM sumM sumM sumM sumM sumM sumM sumM sumM
  simp [lenM]
  cases leapY y <;> simp
def badM (y mo d h mi s : Int) : Prop := y < 1601 ∨ y > 9999 ∨ mo < 1 ∨ mo > 12 ∨ d < 1 ∨ d > lenM y mo ∨ h < 0 ∨ h > 23 ∨ mi < 0 ∨ mi > 59 ∨ s < 0 ∨ s > 60
instance (y mo d h mi s : Int) : Decidable (badM y mo d h mi s) := by unfold badM; infer_instance
/-- The second of a time. -/
def makeOf (y mo d h mi s : Int) : Int × Bool := if badM y mo d h mi s then (0, false) else ((firstY y + d - 1 + sumM y (mo - 1).toNat) * 86400 + h * 3600 + mi * 60 + mn s 59, true)
def monL : List (List UInt8) := [[74, 97, 110], [70, 101, 98], [77, 97, 114], [65, 112, 114], [77, 97, 121], [74, 117, 110], [74, 117, 108], [65, 117, 103], [83, 101, 112], [79, 99, 116], [78, 111, 118], [68, 101, 99]]
def dayL : List (List UInt8) := [[83, 117, 110], [77, 111, 110], [84, 117, 101], [87, 101, 100], [84, 104, 117], [70, 114, 105], [83, 97, 116]]
def longL : List (List UInt8) := [[83, 117, 110, 100, 97, 121], [77, 111, 110, 100, 97, 121], [84, 117, 101, 115, 100, 97, 121], [87, 101, 100, 110, 101, 115, 100, 97, 121], [84, 104, 117, 114, 115, 100, 97, 121], [70, 114, 105, 100, 97, 121], [83, 97, 116, 117, 114, 100, 97, 121]]
def dayR : List (List UInt8) := [[84, 104, 117], [70, 114, 105], [83, 97, 116], [83, 117, 110], [77, 111, 110], [84, 117, 101], [87, 101, 100]]
def longR : List (List UInt8) := [[84, 104, 117, 114, 115, 100, 97, 121], [70, 114, 105, 100, 97, 121], [83, 97, 116, 117, 114, 100, 97, 121], [83, 117, 110, 100, 97, 121], [77, 111, 110, 100, 97, 121], [84, 117, 101, 115, 100, 97, 121], [87, 101, 100, 110, 101, 115, 100, 97, 121]]
/-- A text's first place in a list; -1: it is not there. -/
def idxF (s : List UInt8) : List (List UInt8) → Int → Int
  | [], _ => -1
  | x :: t, i => if x = s then i else idxF s t (i + 1)
theorem idxF_facts (s : List UInt8) : ∀ (l : List (List UInt8)) (i : Int), 0 ≤ i → (0 ≤ idxF s l i ↔ s ∈ l) ∧ -1 ≤ idxF s l i ∧ idxF s l i < i + l.length + 1
  | [], i, h => by simp [idxF]; omega
  | x :: t, i, h => by
    have q := idxF_facts s t (i + 1) (by omega)
    unfold idxF
    by_cases e : x = s
    · rw [if_pos e]; simp [e]; omega
    · rw [if_neg e, List.length_cons]
      refine ⟨q.1.trans ?_, q.2.1, by omega⟩
      simp [Ne.symm e]
def mon (s : List UInt8) : Int := idxF s monL 0
theorem mon_facts (s : List UInt8) : (0 ≤ mon s ↔ s ∈ monL) ∧ -1 ≤ mon s ∧ mon s < 13 := by
  have := idxF_facts s monL 0 (by omega)
  refine ⟨this.1, this.2.1, ?_⟩
  have h := this.2.2
  have e : (monL.length : Int) = 12 := rfl
  unfold mon; omega
theorem monL_facts : ∀ x ∈ monL, x.length = 3 ∧ (32 : UInt8) ∉ x ∧ (45 : UInt8) ∉ x := by decide
theorem dayL_facts : ∀ x ∈ dayL, x.length = 3 ∧ (32 : UInt8) ∉ x ∧ (44 : UInt8) ∉ x := by decide
theorem longL_facts : ∀ x ∈ longL, 6 ≤ x.length ∧ x.length ≤ 9 ∧ (32 : UInt8) ∉ x ∧ (44 : UInt8) ∉ x := by decide
theorem dayR_mem (s : List UInt8) : s ∈ dayR ↔ s ∈ dayL :=
  ⟨(show ∀ x ∈ dayR, x ∈ dayL by decide) s, (show ∀ x ∈ dayL, x ∈ dayR by decide) s⟩
theorem longR_mem (s : List UInt8) : s ∈ longR ↔ s ∈ longL :=
  ⟨(show ∀ x ∈ longR, x ∈ longL by decide) s, (show ∀ x ∈ longL, x ∈ longR by decide) s⟩
def inR (t : Int) : Bool := decide (t ≥ -11644473600) && decide (t < 253402300800)
theorem day_split (t : Int) : (Int.tmod t 86400 < 0 → Int.tdiv t 86400 - 1 = t / 86400 ∧ Int.tmod t 86400 + 86400 = t % 86400) ∧ (¬ Int.tmod t 86400 < 0 → Int.tdiv t 86400 = t / 86400 ∧ Int.tmod t 86400 = t % 86400) := by
  by_cases h : 0 ≤ t
  · rw [tmod_pos h, tdiv_pos h]
    refine ⟨fun c => by omega, fun c => ⟨rfl, rfl⟩⟩
  · obtain ⟨m, rfl⟩ : ∃ m, t = -m := ⟨-t, by omega⟩
    rw [Int.neg_tmod, Int.neg_tdiv, tmod_pos (by omega), tdiv_pos (by omega)]
    refine ⟨fun c => by omega, fun c => by omega⟩
theorem year_ex (n : Int) (h0 : firstY 1601 ≤ n) : ∀ m : Nat, n < firstY (1601 + m) → ∃ y : Int, 1601 ≤ y ∧ y < 1601 + m ∧ firstY y ≤ n ∧ n < firstY (y + 1)
  | 0, h => by simp at h; omega
  | m + 1, h => by
    by_cases c : n < firstY (1601 + m)
    · obtain ⟨y, a, b, d, e⟩ := year_ex n h0 m c
      exact ⟨y, a, by omega, d, e⟩
    · exact ⟨1601 + m, by omega, by omega, by omega, by rw [show (1601 : Int) + m + 1 = 1601 + ((m + 1 : Nat) : Int) by omega]; exact h⟩
theorem year_of {t : Int} (h : inR t = true) : ∃ y : Int, 1601 ≤ y ∧ y ≤ 9999 ∧ firstY y ≤ t / 86400 ∧ t / 86400 < firstY (y + 1) := by
  unfold inR at h
  simp only [Bool.and_eq_true, decide_eq_true_eq] at h
  have e1 : firstY 1601 = -134774 := by decide
  have e2 : firstY (1601 + (8399 : Nat)) = 2932897 := by decide
  obtain ⟨y, a, b, c, d⟩ := year_ex (t / 86400) (by rw [e1]; omega) 8399 (by rw [e2]; omega)
  exact ⟨y, a, by omega, c, d⟩
/-- The year that ends in two digits, fifty years ahead at most. -/
def nearY (yy y : Int) : Int := y + 50 - (y + 50 - yy) % 100
def tellM (m : Int × Bool) : Int × Int := if m.2 = true then (m.1, 0) else (0, 1)
def okM (y mo d : Int) (c : Int × Int × Int × Bool) : Prop := c.2.2.2 = true ∧ 0 ≤ y ∧ 0 ≤ mo ∧ 0 ≤ d
instance (y mo d : Int) (c : Int × Int × Int × Bool) : Decidable (okM y mo d c) := by unfold okM; infer_instance
/-- A time of parts that were read. -/
def madeOf (y mo d : Int) (c : Int × Int × Int × Bool) : Int × Int := if okM y mo d c then tellM (makeOf y (mo + 1) d c.1 c.2.1 c.2.2.1) else (0, 4)
theorem made_no {y mo d : Int} {c : Int × Int × Int × Bool} (h : ¬ okM y mo d c) : madeOf y mo d c = (0, 4) := if_neg h
def finOf (x : Int × Int × Int × Int × Int × Int) : Int × Int :=
  if 0 ≤ x.1 ∧ 0 ≤ x.2.1 ∧ 0 ≤ x.2.2.1 ∧ 0 ≤ x.2.2.2.1 ∧ 0 ≤ x.2.2.2.2.1 ∧ 0 ≤ x.2.2.2.2.2 then tellM (makeOf x.1 (x.2.1 + 1) x.2.2.1 x.2.2.2.1 x.2.2.2.2.1 x.2.2.2.2.2) else (0, 4)
theorem fin_made (y mo d : Int) (l : List UInt8) : finOf (y, mo, d, clkP l) = madeOf y mo d (clkR l) := by
  unfold finOf madeOf
  rcases clk_eq l with ⟨h1, h2, h3, h4, h5⟩ | ⟨h1, h2⟩
  · rw [h2]
    by_cases q : 0 ≤ y ∧ 0 ≤ mo ∧ 0 ≤ d
    · rw [if_pos ⟨q.1, q.2.1, q.2.2, h3, h4, h5⟩, if_pos (show okM y mo d (clkR l) from ⟨h1, q⟩)]
    · rw [if_neg (fun g => q ⟨g.1, g.2.1, g.2.2.1⟩), if_neg (fun g : okM y mo d (clkR l) => q g.2)]
  · rw [if_neg (fun g => h2 g.2.2.2), if_neg (fun g : okM y mo d (clkR l) => by have := g.1; rw [h1] at this; cases this)]
def YR (t y : Int) : Prop := 1601 ≤ y ∧ y ≤ 9999 ∧ (inR t = true → firstY y ≤ t / 86400 ∧ t / 86400 < firstY (y + 1)) ∧ (inR t = false → y = 1970)
theorem yr_ex (t : Int) : ∃ y, YR t y := by
  cases h : inR t
  · exact ⟨1970, by unfold YR; simp [h]⟩
  · obtain ⟨y, a, b, c, d⟩ := year_of h
    exact ⟨y, a, b, fun _ => ⟨c, d⟩, fun e => by rw [h] at e; cases e⟩
def gmt : List UInt8 := [71, 77, 84]
def endsC (p : List UInt8) : Bool := Lib.hasSuffix p [44]
def fixY (p0 p3 p5 : List UInt8) : Int := if p0.length = 4 ∧ p0[3]? = some 44 ∧ p0.take 3 ∈ dayL ∧ p5 = gmt then num p3 4 else -1
def fixP (p0 p1 p2 p3 p4 p5 : List UInt8) : Int × Int := madeOf (fixY p0 p3 p5) (mon p2) (num p1 2) (clkR p4)
def obsY (q2 : List UInt8) (yr : Int) : Int := if 0 ≤ num q2 2 then nearY (num q2 2) yr else -1
def obsQ (p0 p2 p3 : List UInt8) (yr : Int) : List (List UInt8) → Int × Int
  | [q0, q1, q2] => if endsC p0 = true ∧ p0.take (p0.length - 1) ∈ longL ∧ p3 = gmt then madeOf (obsY q2 yr) (mon q1) (num q0 2) (clkR p2) else (0, 4)
  | _ => (0, 4)
def obsP (p0 p1 p2 p3 : List UInt8) (yr : Int) : Int × Int := obsQ p0 p2 p3 yr (spl 45 p1)
def ascG (l : List UInt8) : Prop := l.length = 24 ∧ l[3]? = some 32 ∧ l[7]? = some 32 ∧ l[10]? = some 32 ∧ l[19]? = some 32 ∧ l.take 3 ∈ dayL
instance (l : List UInt8) : Decidable (ascG l) := by unfold ascG; infer_instance
def ascD (l : List UInt8) : Int := if l[8]? = some 32 then num ((l.drop 9).take 1) 1 else num ((l.drop 8).take 2) 2
def ascM (l : List UInt8) : Int × Int := madeOf (num (l.drop 20) 4) (mon ((l.drop 4).take 3)) (ascD l) (clkR ((l.drop 11).take 8))
def ascP (l : List UInt8) : Int × Int := if ascG l then ascM l else (0, 4)
def parseQ (l : List UInt8) (yr : Int) : List (List UInt8) → Int × Int
  | [p0, p1, p2, p3, p4, p5] => if endsC p0 = true then fixP p0 p1 p2 p3 p4 p5 else ascP l
  | [p0, p1, p2, p3] => if endsC p0 = true then obsP p0 p1 p2 p3 yr else ascP l
  | _ => ascP l
/-- A date, read by its pieces. -/
def parseP (l : List UInt8) (yr : Int) : Int × Int := parseQ l yr (spl 32 l)
def imfG (l : List UInt8) : Prop := l.length = 29 ∧ (l.drop 3).take 2 = [44, 32] ∧ l[7]? = some 32 ∧ l[11]? = some 32 ∧ l[16]? = some 32 ∧ l.drop 25 = [32, 71, 77, 84] ∧ l.take 3 ∈ dayL
instance (l : List UInt8) : Decidable (imfG l) := by unfold imfG; infer_instance
def imfM (l : List UInt8) : Int × Int := madeOf (num ((l.drop 12).take 4) 4) (mon ((l.drop 8).take 3)) (num ((l.drop 5).take 2) 2) (clkR ((l.drop 17).take 8))
def rfcG (r : List UInt8) : Prop := r.length = 24 ∧ r[1]? = some 32 ∧ r[4]? = some 45 ∧ r[8]? = some 45 ∧ r[11]? = some 32 ∧ r.drop 20 = [32, 71, 77, 84]
instance (r : List UInt8) : Decidable (rfcG r) := by unfold rfcG; infer_instance
def rfcY (q : List UInt8) (yr : Int) : Int := if 0 ≤ num q 2 then nearY (num q 2) yr else num q 2
def rfcM (r : List UInt8) (yr : Int) : Int × Int := madeOf (rfcY ((r.drop 9).take 2) yr) (mon ((r.drop 5).take 3)) (num ((r.drop 2).take 2) 2) (clkR ((r.drop 12).take 8))
/-- How many bytes stand before the first ','. -/
def com : List UInt8 → Nat
  | [] => 0
  | b :: t => if b = 44 then 0 else com t + 1
theorem com_le : ∀ l : List UInt8, com l ≤ l.length
  | [] => Nat.le_refl _
  | b :: t => by unfold com; split; omega; have := com_le t; simp; omega
theorem com_of : ∀ (n r : List UInt8), (44 : UInt8) ∉ n → com (n ++ 44 :: r) = n.length
  | [], r, _ => by simp [com]
  | b :: t, r, h => by
    have hb : b ≠ 44 := fun e => h (by simp [e])
    rw [List.cons_append, com, if_neg hb, com_of t r (fun e => h (by simp [e]))]; rfl
def obsG (l : List UInt8) : Prop := com l < l.length ∧ l.take (com l) ∈ longL ∧ rfcG (l.drop (com l))
instance (l : List UInt8) : Decidable (obsG l) := by unfold obsG; infer_instance
/-- A date, read by its places. -/
def parseR (l : List UInt8) (yr : Int) : Int × Int := if imfG l then imfM l else if ascG l then ascM l else if obsG l then rfcM (l.drop (com l)) yr else (0, 4)
theorem number_loop (s : ByteArray) (hs : s.size ≤ 1000000000) : ∀ (t : List UInt8) (i : Nat) (n : Int), (B s).drop i = t → 0 ≤ n → (n + 1) * 10 ^ t.length ≤ 1000000000000000000 → Ev (fun k => date_number.l0 k s n (s.size : Int) (i : Int)) (numV t n)
  | [], i, n, h, h0, h1 => by
    have := end_drop h
    exact Ev.step (fun _ => date_number.l0.eq_2 ..) (Ev.neg (by omega) (Ev.now _))
  | c :: t, i, n, h, h0, h1 => by
    obtain ⟨e1, e2, e3⟩ := bt_drop h
    have u := u8_lt c
    have hn := pow_small 0 (c :: t) h0 h1
    refine Ev.step (fun _ => date_number.l0.eq_2 ..) (Ev.pos (by omega) (Ev.pos (by omega) (Ev.pos (by omega) ?_)))
    rw [e1]
    unfold numV
    by_cases a1 : (c.toNat : Int) < 48
    · rw [if_pos a1]; exact Ev.pos a1 (Ev.now _)
    · rw [if_neg a1]; refine Ev.neg a1 ?_
      by_cases a2 : (c.toNat : Int) > 57
      · rw [if_pos a2]; exact Ev.pos a2 (Ev.now _)
      · rw [if_neg a2]; refine Ev.neg a2 ?_
        have hq := num_next (d := (c.toNat : Int) - 48) h1 (by omega)
        have hm := pow_small 0 t (by omega) hq
        rw [wrap_id (x := n * 10) (by omega) (by omega), Int.emod_eq_of_lt (by omega) (by omega), wrap_id (x := n * 10 + _) (by omega) (by omega), wrap_id (x := (i : Int) + 1) (by omega) (by omega), cast_succ]
        refine number_loop s hs t (i + 1) _ e3 (by omega) hq
theorem number_ok (s : ByteArray) (hs : s.size ≤ 1000000000) (w : Nat) (hw : w ≤ 18) : Ev (fun k => date_number.f k s (w : Int)) (num (B s) w) := by
  unfold date_number.f num
  rw [← size_B]
  by_cases h : s.size = w
  · rw [if_pos h]
    refine Ev.pos (by omega) (number_loop s hs (B s) 0 0 rfl (by omega) ?_)
    rw [← size_B, h]
    have := ten_pow hw
    omega
  · rw [if_neg h]
    exact Ev.neg (by omega) (Ev.now _)
theorem Index_loop (l : List ByteArray) (s : ByteArray) (hl : l.length ≤ 1000) : ∀ (t : List ByteArray) (i : Nat), l.drop i = t → Ev (fun k => slices_Index_string_string.l0 k l s (l.length : Int) (i : Int)) (idxF (B s) (t.map B) i)
  | [], i, h => by
    have := drop_nil h
    exact Ev.step (fun _ => slices_Index_string_string.l0.eq_2 ..) (Ev.neg (by omega) (Ev.now _))
  | x :: t, i, h => by
    obtain ⟨h1, h2, h3⟩ := drop_cons h
    refine Ev.step (fun _ => slices_Index_string_string.l0.eq_2 ..) (Ev.pos (by omega) (Ev.pos (by omega) (Ev.pos (by omega) ?_)))
    rw [rdOf_of h2, toList_B, toList_B, List.map_cons, idxF]
    by_cases e : B s = B x
    · rw [if_pos e.symm]; exact Ev.pos e (Ev.now _)
    · rw [if_neg (fun q => e q.symm)]
      refine Ev.neg e ?_
      rw [wrap_id (by omega) (by omega), cast_succ]
      exact Index_loop l s hl t (i + 1) h3
theorem month_ok (s : ByteArray) (y mo d h mi c : Int) : Ev (fun k => date_date_month.f k y mo d h mi c s) (y, mon (B s), d, h, mi, c) := by
  unfold date_date_month.f
  obtain ⟨M, hM⟩ : ∃ M, date_months.f = some M := ⟨_, rfl⟩
  refine Ev.bnd hM (Ev.bind (a := mon (B s)) ?_ (Ev.now _))
  have e : M.map B = monL := by rw [← Option.some.inj hM]; rfl
  have hl : M.length ≤ 1000 := by rw [← List.length_map (f := B), e]; decide
  have := Index_loop M s hl M 0 rfl
  rw [e] at this
  exact this
theorem dayNames_eq : Own.dayNames.map B = longL := rfl
theorem dayNames_eq3 : Own.dayNames.map (fun x => (x.extract 0 3).toList) = dayL := by kernel_rfl
theorem any_dec (l : List (List UInt8)) (s : List UInt8) : (l.any fun x => x == s) = decide (s ∈ l) := by
  rw [Bool.eq_iff_iff, List.any_eq_true, decide_eq_true_iff]
  exact ⟨fun ⟨x, hx, e⟩ => by rw [← beq_iff_eq.1 e]; exact hx, fun h => ⟨s, h, beq_self_eq_true s⟩⟩
theorem named_short (s : ByteArray) : date_named.f s true = some (decide (B s ∈ dayL)) := by
  unfold date_named.f
  rw [← any_dec, ← dayNames_eq3, List.any_map]
  congr 2
  funext x
  simp [Own.nameIs, Function.comp, toList_B]
theorem named_long (s : ByteArray) : date_named.f s false = some (decide (B s ∈ longL)) := by
  unfold date_named.f
  rw [← any_dec, ← dayNames_eq, List.any_map]
  congr 2
  funext x
  simp [Own.nameIs, Function.comp, toList_B]
theorem leap_ok {y : Int} (h : 0 ≤ y) : date_leap.f y = some (leapY y) := by
  unfold date_leap.f leapY
  rw [tmod_pos h, tmod_pos h, tmod_pos h]
  by_cases a : y % 4 = 0
  · rw [if_pos a]
    by_cases b : y % 100 = 0
    · rw [if_pos b]; simp [a, b]; rfl
    · rw [if_neg b]; simp [a, b]
  · rw [if_neg a]
    have : ¬ y % 400 = 0 := by omega
    simp [a, this]
theorem length_ok {y m : Int} (h : 0 ≤ y) : Ev (fun k => date_length.f k y m) (lenM y m) := by
  unfold date_length.f lenM
  by_cases a : m = 2
  · rw [if_pos a]
    refine Ev.pos a (Ev.bnd (leap_ok h) (Ev.step (fun _ => date_length.j0.eq_2 ..) ?_))
    cases b : leapY y
    · exact Ev.neg (by simp) (Ev.pos a (Ev.now _))
    · exact Ev.pos rfl (Ev.now _)
  · rw [if_neg a]
    refine Ev.neg a (Ev.step (fun _ => date_length.j0.eq_2 ..) (Ev.neg (by simp) (Ev.neg a ?_)))
    by_cases b : m = 4
    · exact Ev.pos b (Ev.tell (if_pos (by omega)).symm)
    refine Ev.neg b ?_
    by_cases c : m = 6
    · exact Ev.pos c (Ev.tell (if_pos (by omega)).symm)
    refine Ev.neg c ?_
    by_cases d : m = 9
    · exact Ev.pos d (Ev.tell (if_pos (by omega)).symm)
    refine Ev.neg d ?_
    by_cases e : m = 11
    · exact Ev.pos e (Ev.tell (if_pos (by omega)).symm)
    · exact Ev.neg e (Ev.tell (if_neg (by omega)).symm)
theorem ahead_ok {y : Int} (h0 : 1 ≤ y) (h1 : y ≤ 20000) : date_ahead.f y = some ((y - 1) * 365 + (y - 1) / 4 - (y - 1) / 100 + (y - 1) / 400) := by
  unfold date_ahead.f
  rw [wrap_id (x := y - 1) (by omega) (by omega), tdiv_pos (by omega), tdiv_pos (by omega), tdiv_pos (by omega)]
  simp (disch := omega) only [wrap_id]
theorem first_ok' {y : Int} (h0 : 1 ≤ y) (h1 : y ≤ 20000) : date_first.f y = some (firstY y) := by
  unfold date_first.f
  rw [ahead_ok h0 h1, ahead_ok (y := 1970) (by omega) (by omega)]
  simp only [Option.bind_some]
  rw [wrap_id (by omega) (by omega)]
  unfold firstY
  congr 1
theorem date_Make_loop (y h mi s : Int) (hy : 1 ≤ y ∧ y ≤ 10000) (hh : 0 ≤ h ∧ h ≤ 23) (hm : 0 ≤ mi ∧ mi ≤ 59) (hs : 0 ≤ s ∧ s ≤ 60) : ∀ (j p : Nat) (n : Int), p + j ≤ 11 → -10000000 ≤ n → n + 31 * j ≤ 10000000 →
    Ev (fun k => date_Make.l0 k y ((p : Int) + 1 + j) h mi s n ((p : Int) + 1)) ((n + (sumM y (p + j) - sumM y p)) * 86400 + h * 3600 + mi * 60 + mn s 59, true)
  | 0, p, n, hp, h0, h1 => by
    have q : 0 ≤ mn s 59 ∧ mn s 59 ≤ 59 := by unfold mn; split <;> omega
    refine Ev.step (fun _ => date_Make.l0.eq_2 ..) (Ev.neg (by omega) (Ev.tell ?_))
    simp (disch := omega) only [wrap_id]
    rw [Nat.add_zero]
    congr 1
    omega
  | j + 1, p, n, hp, h0, h1 => by
    have l := lenM_range y ((p : Int) + 1)
    refine Ev.step (fun _ => date_Make.l0.eq_2 ..) (Ev.pos (by omega) (Ev.bind (length_ok (by omega)) ?_))
    rw [wrap_id (x := n + _) (by omega) (by omega), wrap_id (x := (p : Int) + 1 + 1) (by omega) (by omega)]
    have r := date_Make_loop y h mi s hy hh hm hs j (p + 1) (n + lenM y ((p : Int) + 1)) (by omega) (by omega) (by omega)
    have e1 : ((p + 1 : Nat) : Int) + 1 + (j : Int) = (p : Int) + 1 + ((j + 1 : Nat) : Int) := by omega
    have e2 : ((p + 1 : Nat) : Int) + 1 = (p : Int) + 1 + 1 := by omega
    have e3 : sumM y (p + 1) = sumM y p + lenM y ((p : Int) + 1) := by simp only [sumM]
    have e4 : p + 1 + j = p + (j + 1) := by omega
    rw [e1, e2, e3, e4] at r
    have e5 : n + lenM y ((p : Int) + 1) + (sumM y (p + (j + 1)) - (sumM y p + lenM y ((p : Int) + 1))) = n + (sumM y (p + (j + 1)) - sumM y p) := by omega
    rw [e5] at r
    exact r
theorem date_Make_ok (y mo d h mi s : Int) : Ev (fun k => date_Make.f k y mo d h mi s) (makeOf y mo d h mi s) := by
  have bad : badM y mo d h mi s → Ev (fun k => date_Make.j0 k y mo d h mi s true) (makeOf y mo d h mi s) := fun hb =>
    Ev.step (fun _ => date_Make.j0.eq_2 ..) (Ev.pos rfl (Ev.tell (if_pos hb).symm))
  unfold date_Make.f
  refine Ev.ite (fun c => bad (by unfold badM; omega)) (fun c1 => ?_)
  refine Ev.ite (fun c => bad (by unfold badM; omega)) (fun c2 => ?_)
  refine Ev.ite (fun c => bad (by unfold badM; omega)) (fun c3 => ?_)
  refine Ev.ite (fun c => bad (by unfold badM; omega)) (fun c4 => ?_)
  refine Ev.ite (fun c => bad (by unfold badM; omega)) (fun c5 => ?_)
  refine Ev.bind (length_ok (by omega)) ?_
  refine Ev.ite (fun c => bad (by unfold badM; omega)) (fun c6 => ?_)
  refine Ev.ite (fun c => bad (by unfold badM; omega)) (fun c7 => ?_)
  refine Ev.ite (fun c => bad (by unfold badM; omega)) (fun c8 => ?_)
  refine Ev.ite (fun c => bad (by unfold badM; omega)) (fun c9 => ?_)
  refine Ev.ite (fun c => bad (by unfold badM; omega)) (fun c10 => ?_)
  refine Ev.ite (fun c => bad (by unfold badM; omega)) (fun c11 => ?_)
  by_cases c12 : s > 60
  · rw [decide_eq_true c12]; exact bad (by unfold badM; omega)
  · rw [decide_eq_false c12]
    refine Ev.step (fun _ => date_Make.j0.eq_2 ..) (Ev.neg (by simp) (Ev.bnd (first_ok' (by omega) (by omega)) ?_))
    have l := lenM_range y mo
    have f := firstY_range (y := y) (by omega) (by omega)
    rw [wrap_id (x := firstY y + d) (by omega) (by omega), wrap_id (x := firstY y + d - 1) (by omega) (by omega)]
    have r := date_Make_loop y h mi s ⟨by omega, by omega⟩ ⟨by omega, by omega⟩ ⟨by omega, by omega⟩ ⟨by omega, by omega⟩ (mo - 1).toNat 0 (firstY y + d - 1) (by omega) (by omega) (by omega)
    have e1 : (((0 : Nat) : Int) + 1 + ((mo - 1).toNat : Int)) = mo := by omega
    rw [e1] at r
    have e2 : makeOf y mo d h mi s = ((firstY y + d - 1 + (sumM y (0 + (mo - 1).toNat) - sumM y 0)) * 86400 + h * 3600 + mi * 60 + mn s 59, true) := by
      unfold makeOf
      rw [if_neg (by unfold badM; omega), Nat.zero_add]
      simp [sumM]
    rw [e2]
    exact r
theorem within_ok (t : Int) : date_within.f t = some (inR t) := by
  unfold date_within.f inR
  rw [first_ok' (y := 1601) (by omega) (by omega), first_ok' (y := 10000) (by omega) (by omega)]
  have e1 : firstY 1601 = -134774 := by decide
  have e2 : firstY 10000 = 2932897 := by decide
  simp only [Option.bind_some, e1, e2]
  have w1 : wrap64 (-134774 * 86400) = -11644473600 := wrap_id (by omega) (by omega)
  have w2 : wrap64 (2932897 * 86400) = 253402300800 := wrap_id (by omega) (by omega)
  rw [w1, w2]
  by_cases h : t ≥ -11644473600
  · rw [if_pos h, decide_eq_true h]; rfl
  · rw [if_neg h, decide_eq_false h]; rfl
theorem down_ok {t : Int} (h0 : -9000000000000000000 ≤ t) (h1 : t ≤ 9000000000000000000) : date_down.f t 86400 = some (t / 86400, t % 86400) := by
  unfold date_down.f
  have d := day_split t
  rw [if_neg (by omega)]
  by_cases c : Int.tmod t 86400 < 0
  · obtain ⟨a, b⟩ := d.1 c
    rw [if_pos c, wrap_id (x := Int.tdiv t 86400) (by omega) (by omega), wrap_id (by omega) (by omega), wrap_id (by omega) (by omega), a, b]
  · obtain ⟨a, b⟩ := d.2 c
    rw [if_neg c, wrap_id (x := Int.tdiv t 86400) (by omega) (by omega), a, b]
theorem yearOf_loop (n y : Int) (hy : y ≤ 9999) (h0 : firstY y ≤ n) (h1 : n < firstY (y + 1)) (hn : -1000000 ≤ n ∧ n ≤ 10000000) : ∀ (j : Nat) (x : Int), 1 ≤ x → x + j = y → Ev (fun k => date_yearOf.l0 k n x) (y, n - firstY y)
  | 0, x, hx, he => by
    obtain rfl : x = y := by omega
    have f := firstY_range (y := x) (by omega) (by omega)
    refine Ev.step (fun _ => date_yearOf.l0.eq_2 ..) (Ev.ite (fun c => ?_) (fun c => ?_))
    · rw [wrap_id (x := x + 1) (by omega) (by omega)]
      refine Ev.bnd (first_ok' (by omega) (by omega)) (Ev.neg (by omega) (Ev.bnd (first_ok' (by omega) (by omega)) ?_))
      rw [wrap_id (by omega) (by omega)]
      exact Ev.now _
    · refine Ev.bnd (first_ok' (by omega) (by omega)) ?_
      rw [wrap_id (by omega) (by omega)]
      exact Ev.now _
  | j + 1, x, hx, he => by
    have q := firstY_le (show x + 1 ≤ y by omega)
    refine Ev.step (fun _ => date_yearOf.l0.eq_2 ..) (Ev.pos (by omega) ?_)
    rw [wrap_id (x := x + 1) (by omega) (by omega)]
    exact Ev.bnd (first_ok' (by omega) (by omega)) (Ev.pos (by omega) (yearOf_loop n y hy h0 h1 hn j (x + 1) (by omega) (by omega)))
theorem yearOf_ok {n y : Int} (ha : 1601 ≤ y) (hy : y ≤ 9999) (h0 : firstY y ≤ n) (h1 : n < firstY (y + 1)) : Ev (fun k => date_yearOf.f k n) (y, n - firstY y) := by
  have e1 : firstY 1601 = -134774 := by decide
  have f0 := firstY_le ha
  have f2 := firstY_range (y := y + 1) (by omega) (by omega)
  unfold date_yearOf.f
  refine Ev.bnd (first_ok' (y := 1601) (by omega) (by omega)) ?_
  rw [e1, wrap_id (x := n - _) (by omega) (by omega), tdiv_pos (by omega), wrap_id (x := (n - -134774) / 366) (by omega) (by omega), wrap_id (by omega) (by omega)]
  obtain ⟨m, hm⟩ : ∃ m : Nat, (n - -134774) / 366 = m := ⟨((n - -134774) / 366).toNat, by omega⟩
  rw [hm]
  have g := firstY_mono 1601 m
  have hle : 1601 + (m : Int) ≤ y := by
    refine Int.not_lt.1 (fun c => ?_)
    have := firstY_le (show y + 1 ≤ 1601 + (m : Int) by omega)
    omega
  exact yearOf_loop n y hy h0 h1 ⟨by omega, by omega⟩ (y - (1601 + (m : Int))).toNat _ (by omega) (by omega)
theorem Split_ok (s : ByteArray) (c : UInt8) (hs : s.size < 4294967281) : strings_Split.f s (⟨#[c]⟩ : ByteArray) = some ((spl c (B s)).map mk) := by
  unfold strings_Split.f
  rw [if_pos hs, if_pos (show (⟨#[c]⟩ : ByteArray).size = 1 from rfl), splB_eq]
theorem bt_ex {s : ByteArray} {i : Nat} (h : i < s.size) : ∃ c, (B s)[i]? = some c ∧ bt s (i : Int) = (c.toNat : Int) := by
  have hl : i < (B s).length := by rw [← size_B]; exact h
  exact ⟨_, List.getElem?_eq_getElem hl, bt_of (List.getElem?_eq_getElem hl)⟩
theorem spl_len (c : UInt8) : ∀ (l : List UInt8), ∀ p ∈ spl c l, p.length ≤ l.length
  | [], p, h => by simp [spl] at h; simp [h]
  | b :: t, p, h => by
    unfold spl at h
    have ih := spl_len c t
    split at h
    · rcases List.mem_cons.1 h with rfl | q
      · simp
      · have := ih p q; simp; omega
    · cases hs : spl c t with
      | nil => exact absurd hs (spl_ne c t)
      | cons a r =>
        rw [hs] at h ih
        rcases List.mem_cons.1 h with rfl | q
        · have := ih a (by simp); simpa using this
        · have := ih p (by simpa using Or.inr q); simp; omega
theorem near_ok {yy t y : Int} (h0 : 0 ≤ yy) (h1 : yy ≤ 99) (h : YR t y) : Ev (fun k => date_near.f k yy t) (nearY yy y) := by
  obtain ⟨a, b, c, d⟩ := h
  unfold date_near.f nearY
  refine Ev.bnd (within_ok t) ?_
  cases hi : inR t
  · obtain rfl := d hi
    refine Ev.neg (by simp) ?_
    rw [wrap_id (x := 1970 + 50 - yy) (by omega) (by omega), tmod_pos (by omega), wrap_id (by omega) (by omega)]
    exact Ev.now _
  · obtain ⟨c1, c2⟩ := c hi
    unfold inR at hi
    simp only [Bool.and_eq_true, decide_eq_true_eq] at hi
    refine Ev.pos rfl (Ev.bnd (down_ok (by omega) (by omega)) (Ev.bind (yearOf_ok a b c1 c2) ?_))
    rw [wrap_id (x := y + 50) (by omega) (by omega), wrap_id (x := y + 50 - yy) (by omega) (by omega), tmod_pos (by omega), wrap_id (by omega) (by omega)]
    exact Ev.now _
theorem len_short (L : List (List UInt8)) : ¬ ((L.map mk).length : Int) = 3 → clkQ L = (-1, -1, -1) := fun h => by
  match L, h with
  | [a, b, c], h => exact absurd rfl h
  | [], _ => rfl
  | [_], _ => rfl
  | [_, _], _ => rfl
  | _ :: _ :: _ :: _ :: _, _ => rfl
theorem clock_ok (s : ByteArray) (hs : s.size ≤ 2000000) (y mo d h mi c : Int) : Ev (fun k => date_date_clock.f k y mo d h mi c s) (y, mo, d, clkP (B s)) := by
  unfold date_date_clock.f clkP
  refine Ev.bnd (Split_ok s 58 (by omega)) ?_
  have hl := spl_len 58 (B s)
  rw [← size_B] at hl
  generalize spl 58 (B s) = L at hl
  refine Ev.ite (fun e => ?_) (fun e => ?_)
  · obtain ⟨p, q, r, rfl⟩ := len3 (l0 := L) (by rw [← List.length_map (f := mk)]; omega)
    have hp := hl p (by simp)
    have hq := hl q (by simp)
    have hr := hl r (by simp)
    refine Ev.pos (by simp) (Ev.bind (number_ok (mk p) (by rw [size_B]; exact Nat.le_trans hp (by omega)) 2 (by omega)) ?_)
    refine Ev.pos (by simp) (Ev.bind (number_ok (mk q) (by rw [size_B]; exact Nat.le_trans hq (by omega)) 2 (by omega)) ?_)
    refine Ev.pos (by simp) (Ev.bind (number_ok (mk r) (by rw [size_B]; exact Nat.le_trans hr (by omega)) 2 (by omega)) ?_)
    exact Ev.now _
  · rw [len_short L e]; exact Ev.now _
theorem j2_ok {y mo d h mi s : Int} (hm : mo ≤ 100) : Ev (fun k => date_Parse.j2 k y mo d h mi s) (finOf (y, mo, d, h, mi, s)) := by
  refine Ev.step (fun _ => date_Parse.j2.eq_2 ..) ?_
  unfold date_date_whole.f
  by_cases q : 0 ≤ y ∧ 0 ≤ mo ∧ 0 ≤ d ∧ 0 ≤ h ∧ 0 ≤ mi ∧ 0 ≤ s
  · rw [if_pos q.1, if_pos q.2.1, if_pos q.2.2.1, if_pos q.2.2.2.1, if_pos q.2.2.2.2.1, decide_eq_true (show s ≥ 0 from q.2.2.2.2.2)]
    refine Ev.bnd rfl (Ev.pos rfl ?_)
    rw [wrap_id (x := mo + 1) (by omega) (by omega)]
    refine Ev.bind (date_Make_ok y (mo + 1) d h mi s) ?_
    have e : finOf (y, mo, d, h, mi, s) = tellM (makeOf y (mo + 1) d h mi s) := if_pos q
    rw [e]
    unfold tellM
    exact Ev.ite (fun c => Ev.tell (if_pos c).symm) (fun c => Ev.tell (if_neg c).symm)
  · have e : finOf (y, mo, d, h, mi, s) = (0, 4) := if_neg q
    rw [e]
    have w : (if y ≥ 0 then (if mo ≥ 0 then (if d ≥ 0 then (if h ≥ 0 then (if mi ≥ 0 then (some (decide (s ≥ 0), y, mo, d, h, mi, s)) else (some (false, y, mo, d, h, mi, s))) else (some (false, y, mo, d, h, mi, s))) else (some (false, y, mo, d, h, mi, s))) else (some (false, y, mo, d, h, mi, s))) else (some (false, y, mo, d, h, mi, s)) : Option (Bool × Int × Int × Int × Int × Int × Int)) = some (false, y, mo, d, h, mi, s) := by
      by_cases c1 : y ≥ 0
      · by_cases c2 : mo ≥ 0
        · by_cases c3 : d ≥ 0
          · by_cases c4 : h ≥ 0
            · by_cases c5 : mi ≥ 0
              · rw [if_pos c1, if_pos c2, if_pos c3, if_pos c4, if_pos c5, decide_eq_false (fun c6 => q ⟨c1, c2, c3, c4, c5, c6⟩)]
              · rw [if_pos c1, if_pos c2, if_pos c3, if_pos c4, if_neg c5]
            · rw [if_pos c1, if_pos c2, if_pos c3, if_neg c4]
          · rw [if_pos c1, if_pos c2, if_neg c3]
        · rw [if_pos c1, if_neg c2]
      · rw [if_neg c1]
    exact Ev.bnd w (Ev.neg (by simp) (Ev.now _))
theorem fixed_ok (p0 p1 p2 p3 p4 p5 : List UInt8) (h : p0.length ≤ 2000000 ∧ p1.length ≤ 2000000 ∧ p2.length ≤ 2000000 ∧ p3.length ≤ 2000000 ∧ p4.length ≤ 2000000 ∧ p5.length ≤ 2000000) :
    Ev (fun k => date_fixed.f k [mk p0, mk p1, mk p2, mk p3, mk p4, mk p5]) (fixY p0 p3 p5, mon p2, num p1 2, clkP p4) := by
  have r0 : rdOf ByteArray.empty [mk p0, mk p1, mk p2, mk p3, mk p4, mk p5] 0 = mk p0 := rfl
  have r1 : rdOf ByteArray.empty [mk p0, mk p1, mk p2, mk p3, mk p4, mk p5] 1 = mk p1 := rfl
  have r2 : rdOf ByteArray.empty [mk p0, mk p1, mk p2, mk p3, mk p4, mk p5] 2 = mk p2 := rfl
  have r3 : rdOf ByteArray.empty [mk p0, mk p1, mk p2, mk p3, mk p4, mk p5] 3 = mk p3 := rfl
  have r4 : rdOf ByteArray.empty [mk p0, mk p1, mk p2, mk p3, mk p4, mk p5] 4 = mk p4 := rfl
  have r5 : rdOf ByteArray.empty [mk p0, mk p1, mk p2, mk p3, mk p4, mk p5] 5 = mk p5 := rfl
  unfold date_fixed.f
  rw [r0, r1, r2, r3, r4, r5]
  refine Ev.pos (by simp) (Ev.bind (number_ok (mk p1) (by rw [mk_size]; omega) 2 (by omega)) ?_)
  refine Ev.pos (by simp) (Ev.bind (number_ok (mk p3) (by rw [mk_size]; omega) 4 (by omega)) ?_)
  refine Ev.pos (by simp) (Ev.bind (month_ok (mk p2) _ _ _ _ _ _) ?_)
  refine Ev.pos (by simp) (Ev.bind (clock_ok (mk p4) (by rw [mk_size]; omega) _ _ _ _ _ _) ?_)
  refine Ev.pos (by simp) ?_
  rw [mk_size, toList_B, B_mk, B_mk, B_mk, B_mk, B_mk]
  have bad : ¬ (p0.length = 4 ∧ p0[3]? = some 44 ∧ p0.take 3 ∈ dayL ∧ p5 = gmt) → Ev (fun _ : Nat => some ((-1 : Int), mon p2, num p1 2, clkP p4)) (fixY p0 p3 p5, mon p2, num p1 2, clkP p4) := fun q =>
    Ev.tell (by unfold fixY; rw [if_neg q])
  refine Ev.ite (fun c1 => Ev.pos (by omega) ?_) (fun c1 => bad (fun q => c1 (by omega)))
  obtain ⟨x, x1, x2⟩ := bt_ex (s := mk p0) (i := 3) (by rw [mk_size]; omega)
  rw [B_mk] at x1
  rw [show bt (mk p0) 3 = (x.toNat : Int) from x2]
  refine Ev.ite (fun c2 => Ev.pos (by decide) (Ev.pos (by omega) ?_)) (fun c2 => bad (fun q => c2 (by have := q.2.1; rw [x1] at this; rw [Option.some.inj this]; rfl)))
  have e44 : x = 44 := (u8_eq x 44 (by omega)).1 c2
  refine Ev.bnd (named_short _) ?_
  rw [B_to, B_mk]
  refine Ev.ite (fun c3 => Ev.pos (by simp) ?_) (fun c3 => bad (fun q => c3 (decide_eq_true q.2.2.1)))
  refine Ev.ite (fun c4 => ?_) (fun c4 => bad (fun q => c4 q.2.2.2))
  exact Ev.tell (by unfold fixY; rw [if_pos ⟨by omega, by rw [x1, e44], of_decide_eq_true c3, c4⟩])
theorem asctime_ok (s : ByteArray) (hs : s.size ≤ 2000000) : ∃ x, Ev (fun k => date_asctime.f k s) x ∧ finOf x = ascP (B s) ∧ x.2.1 ≤ 100 := by
  have low : ∀ b : Bool, b = true → Ev (fun k => date_asctime.j0 k s b (-1) 0 0 0 0 0) (-1, 0, 0, 0, 0, 0) := fun b hb => Ev.step (fun _ => date_asctime.j0.eq_2 ..) (Ev.pos hb (Ev.now _))
  by_cases g : ascG (B s)
  · have e : ascP (B s) = ascM (B s) := if_pos g
    rw [e]
    unfold ascM
    rw [← fin_made]
    refine ⟨_, ?_, rfl, by have := mon_facts (((B s).drop 4).take 3); show mon _ ≤ 100; omega⟩
    obtain ⟨g0, g1, g2, g3, g4, g5⟩ := g
    have hz : s.size = 24 := by rw [size_B]; exact g0
    unfold date_asctime.f
    refine Ev.pos (by omega) (Ev.pos (by omega) (Ev.pos (bt_of (i := 3) g1) (Ev.pos (by omega) (Ev.pos (bt_of (i := 7) g2) (Ev.pos (by omega) (Ev.pos (bt_of (i := 10) g3) (Ev.pos (by omega) (Ev.pos (bt_of (i := 19) g4) ?_))))))))
    refine Ev.pos (by decide) (Ev.pos (by omega) (Ev.bnd (named_short _) ?_))
    rw [B_to, decide_eq_true g5]
    refine Ev.step (fun _ => date_asctime.j0.eq_2 ..) (Ev.neg (by simp) (Ev.pos (by decide) (Ev.pos (by omega) (Ev.bind (month_ok _ _ _ _ _ _ _) ?_))))
    refine Ev.pos (by decide) (Ev.pos (by omega) (Ev.bind (number_ok _ (by rw [size_B, B_extract]; simp; omega) 2 (by omega)) (Ev.pos (by omega) ?_)))
    have b8 : bt s 8 = 32 ↔ (B s)[8]? = some 32 := by
      obtain ⟨c, c1, c2⟩ := bt_ex (s := s) (i := 8) (by omega)
      rw [show bt s 8 = (c.toNat : Int) from c2, c1]
      refine ⟨fun h => by rw [(u8_eq c 32 (by omega)).1 h]; rfl, fun h => by rw [Option.some.inj h]; rfl⟩
    have ex : ∀ a b : Nat, (s.extract a b).size ≤ 2000000 := fun a b => by rw [size_B, B_extract]; simp; omega
    by_cases c8 : bt s 8 = 32
    · have ed : ascD (B s) = num (((B s).drop 9).take 1) 1 := if_pos (b8.1 c8)
      refine Ev.pos c8 (Ev.pos (by decide) (Ev.bind (number_ok _ (by have := ex 9 10; omega) 1 (by omega)) (Ev.pos (by decide) (Ev.pos (by omega) (Ev.bind (clock_ok _ (ex 11 19) _ _ _ _ _ _) (Ev.pos (by omega) (Ev.bind (number_ok _ (by have := ex 20 s.size; omega) 4 (by omega)) (Ev.tell ?_))))))))
      have hb := B_from s 20
      rw [B_extract] at hb
      simp only [ed, B_extract, hb, Nat.reduceSub]
    · have ed : ascD (B s) = num (((B s).drop 8).take 2) 2 := if_neg (fun h => c8 (b8.2 h))
      refine Ev.neg c8 (Ev.pos (by decide) (Ev.pos (by omega) (Ev.bind (clock_ok _ (ex 11 19) _ _ _ _ _ _) (Ev.pos (by omega) (Ev.bind (number_ok _ (by have := ex 20 s.size; omega) 4 (by omega)) (Ev.tell ?_))))))
      have hb := B_from s 20
      rw [B_extract] at hb
      simp only [ed, B_extract, hb, Nat.reduceSub]
  · refine ⟨(-1, 0, 0, 0, 0, 0), ?_, ?_, by show (0 : Int) ≤ 100; decide⟩
    · unfold date_asctime.f
      refine Ev.ite (fun c1 => Ev.pos (by omega) ?_) (fun _ => low _ rfl)
      have hz : s.size = 24 := by omega
      have at_ : ∀ i : Nat, i < 24 → bt s (i : Int) = 32 → (B s)[i]? = some 32 := fun i hi h => by
        obtain ⟨c, d1, d2⟩ := bt_ex (s := s) (i := i) (by omega)
        rw [d2] at h
        rw [d1, (u8_eq c 32 (by omega)).1 h]; rfl
      refine Ev.ite (fun c2 => Ev.pos (by omega) ?_) (fun _ => low _ rfl)
      refine Ev.ite (fun c3 => Ev.pos (by omega) ?_) (fun _ => low _ rfl)
      refine Ev.ite (fun c4 => Ev.pos (by omega) ?_) (fun _ => low _ rfl)
      refine Ev.ite (fun c5 => ?_) (fun _ => low _ rfl)
      refine Ev.pos (by decide) (Ev.pos (by omega) (Ev.bnd (named_short _) ?_))
      rw [B_to]
      refine low _ ?_
      rw [decide_eq_false (fun q => g ⟨by rw [← size_B]; exact hz, at_ 3 (by omega) c2, at_ 7 (by omega) c3, at_ 10 (by omega) c4, at_ 19 (by omega) c5, q⟩)]
      rfl
    · exact (if_neg (fun q => absurd q.1 (by decide))).trans (if_neg g).symm
theorem obs_short (p0 p2 p3 : List UInt8) (yr : Int) (L : List (List UInt8)) : ¬ ((L.map mk).length : Int) = 3 → obsQ p0 p2 p3 yr L = (0, 4) := fun h => by
  match L, h with
  | [a, b, c], h => exact absurd rfl h
  | [], _ => rfl
  | [_], _ => rfl
  | [_, _], _ => rfl
  | _ :: _ :: _ :: _ :: _, _ => rfl
theorem obsolete_ok (p0 p1 p2 p3 : List UInt8) (h : p0.length ≤ 2000000 ∧ p1.length ≤ 2000000 ∧ p2.length ≤ 2000000 ∧ p3.length ≤ 2000000) {t yr : Int} (hy : YR t yr) :
    ∃ x, Ev (fun k => date_obsolete.f k [mk p0, mk p1, mk p2, mk p3] t) x ∧ finOf x = obsP p0 p1 p2 p3 yr ∧ x.2.1 ≤ 100 := by
  have r0 : rdOf ByteArray.empty [mk p0, mk p1, mk p2, mk p3] 0 = mk p0 := rfl
  have r1 : rdOf ByteArray.empty [mk p0, mk p1, mk p2, mk p3] 1 = mk p1 := rfl
  have r2 : rdOf ByteArray.empty [mk p0, mk p1, mk p2, mk p3] 2 = mk p2 := rfl
  have r3 : rdOf ByteArray.empty [mk p0, mk p1, mk p2, mk p3] 3 = mk p3 := rfl
  have cut : strings_CutSuffix.f (mk p0) (⟨#[44]⟩ : ByteArray) = some (⟨(Lib.trimSuffix p0 [44]).toArray⟩, endsC p0) := by
    unfold strings_CutSuffix.f
    rw [if_pos (by rw [mk_size]; omega)]
    rfl
  have hl := spl_len 45 p1
  unfold date_obsolete.f obsP
  rw [r0, r1, r3]
  generalize hL : spl 45 p1 = L at hl
  have hS : strings_Split.f (mk p1) (⟨#[45]⟩ : ByteArray) = some (L.map mk) := by rw [Split_ok (mk p1) 45 (by rw [mk_size]; omega), B_mk, hL]
  have low : ∀ b : Bool, b = true → Ev (fun k => date_obsolete.j0 k [mk p0, mk p1, mk p2, mk p3] t (L.map mk) b (-1) 0 0 0 0 0) (-1, 0, 0, 0, 0, 0) := fun b hb => Ev.step (fun _ => date_obsolete.j0.eq_2 ..) (Ev.pos hb (Ev.now _))
  have bad : obsQ p0 p2 p3 yr L = (0, 4) → finOf (-1, 0, 0, 0, 0, 0) = obsQ p0 p2 p3 yr L ∧ ((-1, 0, 0, 0, 0, 0) : Int × Int × Int × Int × Int × Int).2.1 ≤ 100 := fun q => ⟨by rw [q]; exact if_neg (fun q => absurd q.1 (by decide)), by show (0 : Int) ≤ 100; decide⟩
  by_cases c1 : endsC p0 = true
  · have ct : (⟨(Lib.trimSuffix p0 [44]).toArray⟩ : ByteArray) = mk (p0.take (p0.length - 1)) := by
      unfold Lib.trimSuffix
      rw [if_pos (show Lib.hasSuffix p0 [44] = true from c1)]; rfl
    rw [ct] at cut
    by_cases c2 : p0.take (p0.length - 1) ∈ longL
    · by_cases c3 : ((L.map mk).length : Int) = 3
      · obtain ⟨q0, q1, q2, rfl⟩ := len3 (l0 := L) (by rw [← List.length_map (f := mk)]; omega)
        have e0 := hl q0 (by simp)
        have e1 := hl q1 (by simp)
        have e2 := hl q2 (by simp)
        by_cases c4 : p3 = gmt
        · refine ⟨(obsY q2 yr, mon q1, num q0 2, clkP p2), ?_, ?_, by have := mon_facts q1; show mon _ ≤ 100; omega⟩
          · refine Ev.pos (by simp) (Ev.bnd cut (Ev.pos (by simp) (Ev.bnd hS (Ev.pos c1 (Ev.bnd (named_long _) (Ev.pos (by rw [B_mk]; exact decide_eq_true c2) (Ev.pos rfl (Ev.pos (by simp) ?_))))))))
            rw [toList_B, B_mk, c4]
            refine Ev.step (fun _ => date_obsolete.j0.eq_2 ..) (Ev.neg (by decide) (Ev.pos (by simp) (Ev.bind (number_ok (mk q0) (by rw [mk_size]; omega) 2 (by omega)) ?_)))
            refine Ev.pos (by simp) (Ev.bind (month_ok (mk q1) _ _ _ _ _ _) (Ev.pos (by simp) (Ev.bind (clock_ok (mk p2) (by rw [mk_size]; omega) _ _ _ _ _ _) ?_)))
            refine Ev.pos (by simp) (Ev.bind (number_ok (mk q2) (by rw [mk_size]; omega) 2 (by omega)) ?_)
            rw [B_mk, B_mk, B_mk, B_mk]
            unfold obsY
            by_cases c5 : 0 ≤ num q2 2
            · rw [if_pos c5]
              exact Ev.pos c5 (Ev.bind (near_ok c5 (by have := (num_facts c5).2.2; omega) hy) (Ev.now _))
            · rw [if_neg c5]
              exact Ev.neg c5 (Ev.now _)
          · rw [fin_made]
            exact (if_pos ⟨c1, c2, c4⟩).symm
        · refine ⟨_, ?_, bad (if_neg (fun q => c4 q.2.2))⟩
          refine Ev.pos (by simp) (Ev.bnd cut (Ev.pos (by simp) (Ev.bnd hS (Ev.pos c1 (Ev.bnd (named_long _) (Ev.pos (by rw [B_mk]; exact decide_eq_true c2) (Ev.pos rfl (Ev.pos (by simp) (low _ ?_)))))))))
          rw [toList_B, B_mk]
          exact bne_iff_ne.2 c4
      · refine ⟨_, ?_, bad (obs_short p0 p2 p3 yr L c3)⟩
        exact Ev.pos (by simp) (Ev.bnd cut (Ev.pos (by simp) (Ev.bnd hS (Ev.pos c1 (Ev.bnd (named_long _) (Ev.pos (by rw [B_mk]; exact decide_eq_true c2) (Ev.neg c3 (low _ rfl))))))))
    · refine ⟨_, ?_, bad ?_⟩
      · exact Ev.pos (by simp) (Ev.bnd cut (Ev.pos (by simp) (Ev.bnd hS (Ev.pos c1 (Ev.bnd (named_long _) (Ev.neg (by rw [B_mk, decide_eq_false c2]; simp) (low _ rfl)))))))
      · by_cases c3 : ((L.map mk).length : Int) = 3
        · obtain ⟨q0, q1, q2, rfl⟩ := len3 (l0 := L) (by rw [← List.length_map (f := mk)]; omega)
          exact if_neg (fun q => c2 q.2.1)
        · exact obs_short p0 p2 p3 yr L c3
  · refine ⟨_, ?_, bad ?_⟩
    · exact Ev.pos (by simp) (Ev.bnd cut (Ev.pos (by simp) (Ev.bnd hS (Ev.neg c1 (low _ rfl)))))
    · by_cases c3 : ((L.map mk).length : Int) = 3
      · obtain ⟨q0, q1, q2, rfl⟩ := len3 (l0 := L) (by rw [← List.length_map (f := mk)]; omega)
        exact if_neg (fun q => c1 q.1)
      · exact obs_short p0 p2 p3 yr L c3
theorem Suffix_ok (p : List UInt8) (h : p.length ≤ 2000000) : strings_HasSuffix.f (mk p) (⟨#[44]⟩ : ByteArray) = some (endsC p) := by
  unfold strings_HasSuffix.f
  rw [if_pos (by rw [mk_size]; omega)]; rfl
theorem DParse_ok (s : ByteArray) (hs : s.size ≤ 2000000) {t yr : Int} (hy : YR t yr) : Ev (fun k => date_Parse.f k s t) (parseP (B s) yr) := by
  have hl := spl_len 32 (B s)
  rw [← size_B] at hl
  obtain ⟨x, ax, fx, mx⟩ := asctime_ok s hs
  have asc : ∀ L : List ByteArray, Ev (fun k => date_Parse.j1 k s t L false) (ascP (B s)) := fun L => by
    refine Ev.step (fun _ => date_Parse.j1.eq_2 ..) (Ev.neg (by simp) (Ev.bind ax ?_))
    rw [← fx]
    exact j2_ok mx
  have asc0 : ∀ L : List ByteArray, ¬ (L.length : Int) = 4 → Ev (fun k => date_Parse.j0 k s t L false) (ascP (B s)) := fun L h =>
    Ev.step (fun _ => date_Parse.j0.eq_2 ..) (Ev.neg (by simp) (Ev.neg h (asc L)))
  have ascF : ∀ L : List (List UInt8), ¬ ((L.map mk).length : Int) = 6 → ¬ ((L.map mk).length : Int) = 4 → Ev (fun k => if ((L.map mk).length : Int) = 6 then (if 0 < ((L.map mk).length : Int) then ((strings_HasSuffix.f (rdOf ByteArray.empty (L.map mk) 0) (⟨#[44]⟩ : ByteArray)).bind fun t223 => (date_Parse.j0 k s t (L.map mk) t223)) else (none)) else (date_Parse.j0 k s t (L.map mk) false)) (ascP (B s)) := fun L h6 h4 => Ev.neg h6 (asc0 _ h4)
  unfold date_Parse.f parseP
  refine Ev.bnd (Split_ok s 32 (by omega)) ?_
  generalize spl 32 (B s) = L at hl
  match L, hl with
  | [p0, p1, p2, p3, p4, p5], hl =>
    have e0 := hl p0 (by simp)
    have e1 := hl p1 (by simp)
    have e2 := hl p2 (by simp)
    have e3 := hl p3 (by simp)
    have e4 := hl p4 (by simp)
    have e5 := hl p5 (by simp)
    refine Ev.pos rfl (Ev.pos (by simp) (Ev.bnd (Suffix_ok p0 (by omega)) ?_))
    show Ev _ (if endsC p0 = true then fixP p0 p1 p2 p3 p4 p5 else ascP (B s))
    by_cases c : endsC p0 = true
    · rw [if_pos c]
      refine Ev.step (fun _ => date_Parse.j0.eq_2 ..) (Ev.pos c (Ev.bind (fixed_ok p0 p1 p2 p3 p4 p5 ⟨by omega, by omega, by omega, by omega, by omega, by omega⟩) ?_))
      unfold fixP
      rw [← fin_made]
      exact j2_ok (by show mon p2 ≤ 100; have := mon_facts p2; omega)
    · rw [if_neg c]
      have c' : endsC p0 = false := by simpa using c
      rw [c']
      exact asc0 _ (by simp)
  | [p0, p1, p2, p3], hl =>
    have e0 := hl p0 (by simp)
    have e1 := hl p1 (by simp)
    have e2 := hl p2 (by simp)
    have e3 := hl p3 (by simp)
    refine Ev.neg (by simp) (Ev.step (fun _ => date_Parse.j0.eq_2 ..) (Ev.neg (by simp) (Ev.pos rfl (Ev.pos (by simp) (Ev.bnd (Suffix_ok p0 (by omega)) ?_)))))
    show Ev _ (if endsC p0 = true then obsP p0 p1 p2 p3 yr else ascP (B s))
    by_cases c : endsC p0 = true
    · rw [if_pos c]
      obtain ⟨z, az, fz, mz⟩ := obsolete_ok p0 p1 p2 p3 ⟨by omega, by omega, by omega, by omega⟩ hy
      refine Ev.step (fun _ => date_Parse.j1.eq_2 ..) (Ev.pos c (Ev.bind az ?_))
      rw [← fz]
      exact j2_ok mz
    · rw [if_neg c]
      have c' : endsC p0 = false := by simpa using c
      rw [c']
      exact asc _
  | [], hl => exact ascF [] (by simp) (by simp)
  | [a], hl => exact ascF [a] (by simp) (by simp)
  | [a, b], hl => exact ascF [a, b] (by simp) (by simp)
  | [a, b, c], hl => exact ascF [a, b, c] (by simp) (by simp)
  | [a, b, c, d, e], hl => exact ascF [a, b, c, d, e] (by simp) (by simp)
  | a :: b :: c :: d :: e :: f :: g :: r, hl => exact ascF (a :: b :: c :: d :: e :: f :: g :: r) (by simp only [List.map_cons, List.length_cons]; omega) (by simp only [List.map_cons, List.length_cons]; omega)
theorem parseQ6 (l p0 p1 p2 p3 p4 p5 : List UInt8) (yr : Int) : parseQ l yr [p0, p1, p2, p3, p4, p5] = if endsC p0 = true then fixP p0 p1 p2 p3 p4 p5 else ascP l := rfl
theorem parseQ4 (l p0 p1 p2 p3 : List UInt8) (yr : Int) : parseQ l yr [p0, p1, p2, p3] = if endsC p0 = true then obsP p0 p1 p2 p3 yr else ascP l := rfl
theorem obsQ3 (p0 p2 p3 q0 q1 q2 : List UInt8) (yr : Int) : obsQ p0 p2 p3 yr [q0, q1, q2] = if endsC p0 = true ∧ p0.take (p0.length - 1) ∈ longL ∧ p3 = gmt then madeOf (obsY q2 yr) (mon q1) (num q0 2) (clkR p2) else (0, 4) := rfl
theorem ends_no {p : List UInt8} (h : (44 : UInt8) ∉ p) : endsC p = false := by
  unfold endsC Lib.hasSuffix
  rw [Bool.eq_false_iff]
  intro e
  obtain ⟨t, ht⟩ := List.isSuffixOf_iff_suffix.1 e
  exact h (by rw [← ht]; simp)
theorem ends_of (p : List UInt8) : endsC (p ++ [44]) = true := by
  unfold endsC Lib.hasSuffix
  exact List.isSuffixOf_iff_suffix.2 ⟨p, rfl⟩
theorem ends_split {p : List UInt8} (h : endsC p = true) : p = p.take (p.length - 1) ++ [44] := by
  unfold endsC Lib.hasSuffix at h
  obtain ⟨t, ht⟩ := List.isSuffixOf_iff_suffix.1 h
  rw [← ht]
  simp
theorem made_or {y mo d : Int} {c : Int × Int × Int × Bool} : madeOf y mo d c = (0, 4) ∨ okM y mo d c := by
  by_cases h : okM y mo d c
  · exact .inr h
  · exact .inl (made_no h)
/-- What the form of Print holds, put together and read by places. -/
theorem imf_at {n d m y t : List UInt8} (hn : n.length = 3) (hd : d.length = 2) (hm : m.length = 3) (hy : y.length = 4) (ht : t.length = 8) (hN : n ∈ dayL) :
    imfG ((n ++ [44]) ++ 32 :: (d ++ 32 :: (m ++ 32 :: (y ++ 32 :: (t ++ 32 :: gmt))))) ∧ imfM ((n ++ [44]) ++ 32 :: (d ++ 32 :: (m ++ 32 :: (y ++ 32 :: (t ++ 32 :: gmt))))) = madeOf (num y 4) (mon m) (num d 2) (clkR t) := by
  obtain ⟨n0, n1, n2, rfl⟩ := len3 hn
  obtain ⟨d0, d1, rfl⟩ := len2 hd
  obtain ⟨m0, m1, m2, rfl⟩ := len3 hm
  obtain ⟨y0, y1, y2, y3, rfl⟩ := len4 hy
  obtain ⟨t0, t1, t2, t3, t4, t5, t6, t7, rfl⟩ := len8 ht
  exact ⟨⟨rfl, rfl, rfl, rfl, rfl, rfl, hN⟩, rfl⟩
theorem imf_shape {l : List UInt8} (h : imfG l) : ∃ n d m y t : List UInt8, l = (n ++ [44]) ++ 32 :: (d ++ 32 :: (m ++ 32 :: (y ++ 32 :: (t ++ 32 :: gmt)))) ∧ n.length = 3 ∧ d.length = 2 ∧ m.length = 3 ∧ y.length = 4 ∧ t.length = 8 ∧ n ∈ dayL := by
  obtain ⟨h0, h1, h2, h3, h4, h5, h6⟩ := h
  obtain ⟨a0, a1, a2, a3, a4, a5, a6, a7, a8, a9, a10, a11, a12, a13, a14, a15, a16, a17, a18, a19, a20, a21, a22, a23, a24, a25, a26, a27, a28, rfl⟩ := len29 h0
  have e1 : [a3, a4] = [44, 32] := h1
  have e5 : [a25, a26, a27, a28] = [32, 71, 77, 84] := h5
  simp only [List.cons.injEq, and_true] at e1 e5
  obtain ⟨rfl, rfl⟩ := e1
  obtain ⟨rfl, rfl, rfl, rfl⟩ := e5
  obtain rfl : a7 = 32 := Option.some.inj h2
  obtain rfl : a11 = 32 := Option.some.inj h3
  obtain rfl : a16 = 32 := Option.some.inj h4
  exact ⟨[a0, a1, a2], [a5, a6], [a8, a9, a10], [a12, a13, a14, a15], [a17, a18, a19, a20, a21, a22, a23, a24], rfl, rfl, rfl, rfl, rfl, rfl, h6⟩
theorem rfc_at {d m y t : List UInt8} (hd : d.length = 2) (hm : m.length = 3) (hy : y.length = 2) (ht : t.length = 8) (yr : Int) :
    rfcG (44 :: 32 :: ((d ++ 45 :: (m ++ 45 :: y)) ++ 32 :: (t ++ 32 :: gmt))) ∧ rfcM (44 :: 32 :: ((d ++ 45 :: (m ++ 45 :: y)) ++ 32 :: (t ++ 32 :: gmt))) yr = madeOf (rfcY y yr) (mon m) (num d 2) (clkR t) := by
  obtain ⟨d0, d1, rfl⟩ := len2 hd
  obtain ⟨m0, m1, m2, rfl⟩ := len3 hm
  obtain ⟨y0, y1, rfl⟩ := len2 hy
  obtain ⟨t0, t1, t2, t3, t4, t5, t6, t7, rfl⟩ := len8 ht
  exact ⟨⟨rfl, rfl, rfl, rfl, rfl, rfl⟩, rfl⟩
theorem rfc_shape {r : List UInt8} (h : rfcG r) : ∃ (b : UInt8) (d m y t : List UInt8), r = b :: 32 :: ((d ++ 45 :: (m ++ 45 :: y)) ++ 32 :: (t ++ 32 :: gmt)) ∧ d.length = 2 ∧ m.length = 3 ∧ y.length = 2 ∧ t.length = 8 := by
  obtain ⟨h0, h1, h2, h3, h4, h5⟩ := h
  obtain ⟨a0, a1, a2, a3, a4, a5, a6, a7, a8, a9, a10, a11, a12, a13, a14, a15, a16, a17, a18, a19, a20, a21, a22, a23, rfl⟩ := len24 h0
  have e5 : [a20, a21, a22, a23] = [32, 71, 77, 84] := h5
  simp only [List.cons.injEq, and_true] at e5
  obtain ⟨rfl, rfl, rfl, rfl⟩ := e5
  obtain rfl : a1 = 32 := Option.some.inj h1
  obtain rfl : a4 = 45 := Option.some.inj h2
  obtain rfl : a8 = 45 := Option.some.inj h3
  obtain rfl : a11 = 32 := Option.some.inj h4
  exact ⟨a0, [a2, a3], [a5, a6, a7], [a9, a10], [a12, a13, a14, a15, a16, a17, a18, a19], rfl, rfl, rfl, rfl, rfl⟩
theorem com_at : ∀ l : List UInt8, com l < l.length → ∃ n r, l = n ++ 44 :: r ∧ (44 : UInt8) ∉ n ∧ com l = n.length
  | [], h => by simp [com] at h
  | b :: t, h => by
    by_cases e : b = 44
    · exact ⟨[], t, by rw [e]; rfl, by simp, by simp [com, e]⟩
    · rw [com, if_neg e] at h ⊢
      obtain ⟨n, r, h1, h2, h3⟩ := com_at t (by simpa using h)
      refine ⟨b :: n, r, by rw [h1]; rfl, ?_, by simp [h3]⟩
      intro q
      rcases List.mem_cons.1 q with q | q
      · exact e q.symm
      · exact h2 q
theorem take_app {α : Type} (n r : List α) : (n ++ r).take n.length = n := by simp
theorem drop_app {α : Type} (n r : List α) : (n ++ r).drop n.length = r := by simp
theorem rfcY_ok {q : List UInt8} {yr mo d : Int} {c : Int × Int × Int × Bool} : madeOf (rfcY q yr) mo d c = madeOf (obsY q yr) mo d c := by
  unfold rfcY obsY
  by_cases h : 0 ≤ num q 2
  · rw [if_pos h, if_pos h]
  · rw [if_neg h, if_neg h, made_no (fun g => h g.2.1), made_no (fun g => absurd g.2.1 (by omega))]
/-- What the pieces tell, the places tell. -/
theorem P_in_R (l : List UInt8) (yr : Int) : parseP l yr = (0, 4) ∨ parseP l yr = parseR l yr := by
  have hasc : ascP l = (0, 4) ∨ ascP l = parseR l yr := by
    unfold ascP
    by_cases g : ascG l
    · rw [if_pos g]
      refine .inr ?_
      unfold parseR
      rw [if_neg (fun q : imfG l => by have := q.1; have := g.1; omega), if_pos g]
    · rw [if_neg g]; exact .inl rfl
  unfold parseP
  generalize hL : spl 32 l = L
  match L, hL with
  | [p0, p1, p2, p3, p4, p5], hL =>
    rw [parseQ6]
    by_cases e : endsC p0 = true
    · rw [if_pos e]
      unfold fixP
      rcases made_or (y := fixY p0 p3 p5) (mo := mon p2) (d := num p1 2) (c := clkR p4) with h | h
      · exact .inl h
      · refine .inr ?_
        obtain ⟨h1, h2, h3, h4⟩ := h
        unfold fixY at h2 ⊢
        by_cases g : p0.length = 4 ∧ p0[3]? = some 44 ∧ p0.take 3 ∈ dayL ∧ p5 = gmt
        · rw [if_pos g] at h2 ⊢
          obtain ⟨g1, g2, g3, rfl⟩ := g
          obtain ⟨a0, a1, a2, a3, rfl⟩ := len4 g1
          obtain rfl : a3 = 44 := Option.some.inj g2
          obtain ⟨el, -⟩ := spl6 hL
          have m3 := (monL_facts _ ((mon_facts p2).1.1 h3)).1
          have z := imf_at (n := [a0, a1, a2]) rfl (num_facts h4).1 m3 (num_facts h2).1 (clk_len h1) g3
          have el' : l = ([a0, a1, a2] ++ [44]) ++ 32 :: (p1 ++ 32 :: (p2 ++ 32 :: (p3 ++ 32 :: (p4 ++ 32 :: gmt)))) := el
          unfold parseR
          rw [el', if_pos z.1, z.2]
        · rw [if_neg g] at h2; omega
    · rw [if_neg e]; exact hasc
  | [p0, p1, p2, p3], hL =>
    rw [parseQ4]
    by_cases e : endsC p0 = true
    · rw [if_pos e]
      unfold obsP
      generalize hQ : spl 45 p1 = Q
      match Q, hQ with
      | [q0, q1, q2], hQ =>
        rw [obsQ3]
        by_cases g : endsC p0 = true ∧ p0.take (p0.length - 1) ∈ longL ∧ p3 = gmt
        · rw [if_pos g]
          rcases made_or (y := obsY q2 yr) (mo := mon q1) (d := num q0 2) (c := clkR p2) with h | h
          · exact .inl h
          · refine .inr ?_
            obtain ⟨h1, h2, h3, h4⟩ := h
            obtain ⟨-, g2, rfl⟩ := g
            have hp0 := ends_split e
            generalize p0.take (p0.length - 1) = n at hp0 g2
            obtain ⟨e1, -⟩ := spl4 hL
            obtain ⟨e2, -⟩ := spl3 hQ
            have hy : 0 ≤ num q2 2 := by
              refine Int.not_lt.1 (fun c => ?_)
              unfold obsY at h2
              rw [if_neg (by omega)] at h2
              omega
            have m3 := (monL_facts _ ((mon_facts q1).1.1 h3)).1
            have z := rfc_at (num_facts h4).1 m3 (num_facts hy).1 (clk_len h1) yr
            obtain ⟨n6, n9, -, n44⟩ := longL_facts n g2
            have el : l = n ++ 44 :: 32 :: ((q0 ++ 45 :: (q1 ++ 45 :: q2)) ++ 32 :: (p2 ++ 32 :: gmt)) := by
              rw [e1, hp0, e2]; simp
            have hc : com l = n.length := by rw [el]; exact com_of n _ n44
            have hl : l.length = n.length + 24 := by rw [el, List.length_append, z.1.1]
            have hd : l.drop (com l) = 44 :: 32 :: ((q0 ++ 45 :: (q1 ++ 45 :: q2)) ++ 32 :: (p2 ++ 32 :: gmt)) := by rw [hc, el]; exact drop_app n _
            have hk : l.take (com l) = n := by rw [hc, el]; exact take_app n _
            unfold parseR
            rw [if_neg (fun q : imfG l => by have := q.1; omega), if_neg (fun q : ascG l => by have := q.1; omega), if_pos (show obsG l from ⟨by omega, by rw [hk]; exact g2, by rw [hd]; exact z.1⟩), hd, z.2, rfcY_ok]
        · rw [if_neg g]; exact .inl rfl
      | [], hQ => exact .inl rfl
      | [_], hQ => exact .inl rfl
      | [_, _], hQ => exact .inl rfl
      | _ :: _ :: _ :: _ :: _, hQ => exact .inl rfl
    · rw [if_neg e]; exact hasc
  | [], hL => exact hasc
  | [_], hL => exact hasc
  | [_, _], hL => exact hasc
  | [_, _, _], hL => exact hasc
  | [_, _, _, _, _], hL => exact hasc
  | _ :: _ :: _ :: _ :: _ :: _ :: _ :: _, hL => exact hasc
theorem parseQ_asc (l : List UInt8) (yr : Int) : ∀ L : List (List UInt8), (∀ p, L.head? = some p → endsC p = false) → parseQ l yr L = ascP l := by
  intro L h
  match L, h with
  | [p0, p1, p2, p3, p4, p5], h => rw [parseQ6, h p0 rfl]; rfl
  | [p0, p1, p2, p3], h => rw [parseQ4, h p0 rfl]; rfl
  | [], h => rfl
  | [_], h => rfl
  | [_, _], h => rfl
  | [_, _, _], h => rfl
  | [_, _, _, _, _], h => rfl
  | _ :: _ :: _ :: _ :: _ :: _ :: _ :: _, h => rfl
/-- What the places tell, the pieces tell. -/
theorem R_in_P (l : List UInt8) (yr : Int) : parseR l yr = (0, 4) ∨ parseP l yr = parseR l yr := by
  unfold parseR
  by_cases g : imfG l
  · rw [if_pos g]
    obtain ⟨n, d, m, y, t, rfl, hn, hd, hm, hy, ht, hN⟩ := imf_shape g
    have z := imf_at hn hd hm hy ht hN
    rw [z.2]
    rcases made_or (y := num y 4) (mo := mon m) (d := num d 2) (c := clkR t) with h | h
    · exact .inl h
    · refine .inr ?_
      obtain ⟨h1, h2, h3, h4⟩ := h
      have a0 := (dayL_facts n hN).2.1
      have a1 := digit_ne (num_facts h4).2.1 32 (by decide)
      have a2 := (monL_facts _ ((mon_facts m).1.1 h3)).2.1
      have a3 := digit_ne (num_facts h2).2.1 32 (by decide)
      have a4 := clk_no t h1 32 (by decide)
      unfold parseP
      rw [spl6' (p0 := n ++ [44]) (by simp [a0]) a1 a2 a3 a4 (by decide)]
      rw [parseQ6, if_pos (ends_of n)]
      unfold fixP fixY
      obtain ⟨n0, n1, n2, rfl⟩ := len3 hn
      rw [if_pos ⟨rfl, rfl, hN, rfl⟩]
  · rw [if_neg g]
    by_cases g2 : ascG l
    · rw [if_pos g2]
      refine .inr ?_
      have e : ascP l = ascM l := if_pos g2
      rw [← e]
      unfold parseP
      refine parseQ_asc l yr _ (fun p hp => ?_)
      obtain ⟨b0, b1, -, -, -, b5⟩ := g2
      obtain ⟨q1, q2, q3⟩ := dayL_facts _ b5
      have el : l = l.take 3 ++ 32 :: l.drop 4 := by
        have h3 : 3 < l.length := by omega
        have : l[3]'h3 = 32 := by rw [List.getElem?_eq_getElem h3] at b1; exact Option.some.inj b1
        rw [← this, ← List.drop_eq_getElem_cons h3, List.take_append_drop]
      rw [el, spl_hd 32 _ _ q2] at hp
      rw [← Option.some.inj hp]
      exact ends_no q3
    · rw [if_neg g2]
      by_cases g3 : obsG l
      · rw [if_pos g3]
        obtain ⟨c1, c2, c3⟩ := g3
        obtain ⟨n, r, el, n44, hc⟩ := com_at l c1
        have hk : l.take (com l) = n := by rw [hc, el]; exact take_app n _
        have hd : l.drop (com l) = 44 :: r := by rw [hc, el]; exact drop_app n _
        rw [hk] at c2
        rw [hd] at c3 ⊢
        obtain ⟨b, d, m, y, t, er, hd2, hm, hy, ht⟩ := rfc_shape c3
        injection er with e1 e2
        subst e1
        subst e2
        have z := rfc_at hd2 hm hy ht yr
        rw [z.2, rfcY_ok]
        rcases made_or (y := obsY y yr) (mo := mon m) (d := num d 2) (c := clkR t) with h | h
        · exact .inl h
        · refine .inr ?_
          obtain ⟨h1, h2, h3, h4⟩ := h
          have hyy : 0 ≤ num y 2 := by
            refine Int.not_lt.1 (fun c => ?_)
            unfold obsY at h2
            rw [if_neg (by omega)] at h2
            omega
          obtain ⟨n6, n9, n32, -⟩ := longL_facts n c2
          have dm := digit_ne (num_facts h4).2.1
          have dy := digit_ne (num_facts hyy).2.1
          have mm := monL_facts _ ((mon_facts m).1.1 h3)
          have a2 := clk_no t h1 32 (by decide)
          have el' : l = (n ++ [44]) ++ 32 :: ((d ++ 45 :: (m ++ 45 :: y)) ++ 32 :: (t ++ 32 :: gmt)) := by rw [el]; simp
          unfold parseP
          rw [el', spl4' (p0 := n ++ [44]) (by simp [n32]) (by simp [dm 32 (by decide), dy 32 (by decide), mm.2.1]) a2 (by decide)]
          rw [parseQ4, if_pos (ends_of n)]
          unfold obsP
          rw [spl3' (dm 45 (by decide)) mm.2.2 (dy 45 (by decide))]
          rw [obsQ3, if_pos ⟨ends_of n, by simpa using c2, rfl⟩]
      · rw [if_neg g3]; exact .inl rfl
theorem parse_eq (l : List UInt8) (yr : Int) : parseP l yr = parseR l yr := by
  rcases P_in_R l yr with h | h
  · rcases R_in_P l yr with q | q
    · rw [h, q]
    · exact q
  · exact h
theorem Trim_ok (s : ByteArray) (h : s.size ≤ 9223372036854775807) : head_Trim.f s = some (mk (tr (B s))) := by
  unfold head_Trim.f strings_Trim.f
  rw [if_pos h, if_pos rfl]
  rfl
/-- A byte of a value. -/
def vch (c : UInt8) : Bool := !(decide ((c.toNat : Int) < 32) && !decide ((c.toNat : Int) = 9)) && !decide ((c.toNat : Int) = 127)
def vl (s : ByteArray) : Bool := (B s).all vch && (decide ((s.size : Int) ≤ 4000) && decide (tr (B s) = B s))
theorem val_end {s : ByteArray} {g : Nat → Option ByteArray} (h : s.size ≤ 4000 → Ev g (mk (tr (B s)))) : Ev (fun k => if (s.size : Int) ≤ 4000 then ((g k).bind fun t => (some (t.toList == s.toList))) else (some false)) (decide ((s.size : Int) ≤ 4000) && decide (tr (B s) = B s)) := by
  by_cases h1 : (s.size : Int) ≤ 4000
  · refine Ev.pos h1 (Ev.bind (h (by omega)) (Ev.konst ?_))
    rw [decide_eq_true h1, Bool.true_and, toList_B, toList_B, B_mk]
    congr 1
    rw [Bool.eq_iff_iff]; simp
  · refine Ev.neg h1 ?_
    rw [decide_eq_false h1]; exact Ev.now _
theorem val_ch {c : UInt8} {X : Nat → Option Bool} {r0 : Bool} {t : List UInt8} {e : Bool} (h : Ev X (t.all vch && e)) : Ev (fun k => if (c.toNat : Int) < 32 then (if (c.toNat : Int) = 9 then (if (c.toNat : Int) = 127 then (some false) else X k) else (some false)) else (if (c.toNat : Int) = 127 then (some false) else X k)) ((c :: t).all vch && e) := by
  rw [List.all_cons]
  by_cases h1 : (c.toNat : Int) < 32
  · refine Ev.pos h1 ?_
    by_cases h2 : (c.toNat : Int) = 9
    · refine Ev.pos h2 (Ev.neg (by omega) ?_)
      have : vch c = true := by unfold vch; rw [decide_eq_true h2, decide_eq_false (show ¬ (c.toNat : Int) = 127 by omega)]; simp
      rw [this, Bool.true_and]; exact h
    · refine Ev.neg h2 ?_
      have : vch c = false := by unfold vch; rw [decide_eq_true h1, decide_eq_false h2]; simp
      rw [this]; exact Ev.now _
  · refine Ev.neg h1 ?_
    by_cases h2 : (c.toNat : Int) = 127
    · refine Ev.pos h2 ?_
      have : vch c = false := by unfold vch; rw [decide_eq_true h2]; simp
      rw [this]; exact Ev.now _
    · refine Ev.neg h2 ?_
      have : vch c = true := by unfold vch; rw [decide_eq_false h1, decide_eq_false h2]; simp
      rw [this, Bool.true_and]; exact h
theorem Value_loop (s : ByteArray) (hs : s.size ≤ 9223372036854775807) : ∀ (t : List UInt8) (i : Nat), (B s).drop i = t → Ev (fun k => head_Value.l0 k s (s.size : Int) (i : Int)) (t.all vch && (decide ((s.size : Int) ≤ 4000) && decide (tr (B s) = B s)))
  | [], i, ht => by
    have := end_drop ht
    refine Ev.step (fun _ => head_Value.l0.eq_2 ..) (Ev.neg (by omega) ?_)
    exact val_end (g := fun _ => head_Trim.f s) (fun h => Ev.konst (Trim_ok s (by omega)))
  | c :: t, i, ht => by
    obtain ⟨a1, a2, a3⟩ := bt_drop ht
    refine Ev.step (fun _ => head_Value.l0.eq_2 ..) (Ev.pos (by omega) (Ev.pos (by omega) (Ev.pos (by omega) ?_)))
    rw [a1, wrap_id (by omega) (by omega), cast_succ]
    exact val_ch (r0 := true) (Value_loop s hs t (i + 1) a3)
theorem Value_ok (s : ByteArray) (hs : s.size ≤ 9223372036854775807) : Ev (fun k => head_Value.f k s) (vl s) := Value_loop s hs (B s) 0 rfl
theorem Fields_loop (a b : List S33) (hl : a.length = b.length) (hb : a.length ≤ 1000000000) : ∀ (s t : List S33) (i : Nat), a.drop i = s → b.drop i = t → Ev (fun k => sprref_Fields.l0 k a b (i : Int)) (decide (s = t))
  | [], t, i, h1, h2 => by
    have := drop_nil h1
    have e : t = [] := by rw [← h2]; exact List.drop_eq_nil_of_le (by omega)
    rw [e]
    exact Ev.step (fun _ => sprref_Fields.l0.eq_2 ..) (Ev.neg (by omega) (Ev.now _))
  | x :: s, [], i, h1, h2 => by
    have := drop_nil h2
    have := (drop_cons h1).1
    omega
  | x :: s, y :: t, i, h1, h2 => by
    obtain ⟨a1, a2, a3⟩ := drop_cons h1
    obtain ⟨b1, b2, b3⟩ := drop_cons h2
    have r1 : rd_T33 a (i : Int) = x := by unfold rd_T33; rw [Int.toNat_natCast, List.getD_eq_getElem?_getD, a2]; rfl
    have r2 : rd_T33 b (i : Int) = y := by unfold rd_T33; rw [Int.toNat_natCast, List.getD_eq_getElem?_getD, b2]; rfl
    refine Ev.step (fun _ => sprref_Fields.l0.eq_2 ..) (Ev.pos (by omega) (Ev.pos (by omega) (Ev.pos (by omega) ?_)))
    rw [r1, r2, toList_B, toList_B, toList_B, toList_B]
    by_cases e0 : x.f0 = y.f0
    · refine Ev.pos (by rw [e0]) ?_
      by_cases e1 : x.f1 = y.f1
      · refine Ev.pos (by rw [e1]) ?_
        rw [wrap_id (by omega) (by omega), cast_succ]
        have e : x = y := by cases x; cases y; cases e0; cases e1; rfl
        have ih := Fields_loop a b hl hb s t (i + 1) a3 b3
        have e2 : decide (x :: s = y :: t) = decide (s = t) := by rw [e]; simp
        rw [e2]; exact ih
      · refine Ev.neg (fun h => e1 (B_inj h)) ?_
        rw [decide_eq_false (fun h => e1 (by rw [(List.cons.inj h).1]))]; exact Ev.now _
    · refine Ev.neg (fun h => e0 (B_inj h)) ?_
      rw [decide_eq_false (fun h => e0 (by rw [(List.cons.inj h).1]))]; exact Ev.now _
theorem Fields_ok (a b : List S33) (hb : a.length ≤ 1000000000) : Ev (fun k => sprref_Fields.f k a b) (decide (a = b)) := by
  unfold sprref_Fields.f
  by_cases h : a.length = b.length
  · exact Ev.pos (by omega) (Fields_loop a b h hb a b 0 rfl rfl)
  · refine Ev.neg (by omega) ?_
    rw [decide_eq_false (fun e => h (by rw [e]))]; exact Ev.now _
def nEtag : ByteArray := ⟨#[69, 84, 97, 103]⟩
def nLastM : ByteArray := ⟨#[76, 97, 115, 116, 45, 77, 111, 100, 105, 102, 105, 101, 100]⟩
def nINM : ByteArray := ⟨#[73, 102, 45, 78, 111, 110, 101, 45, 77, 97, 116, 99, 104]⟩
def nIMS : ByteArray := ⟨#[73, 102, 45, 77, 111, 100, 105, 102, 105, 101, 100, 45, 83, 105, 110, 99, 101]⟩
/-- The mark of lines: their tag; since when. -/
def markT (l : List S33) : Bool × ByteArray × Bool := match allOf l nEtag with
  | [x] => tagR (tagOf (B x))
  | _ => (false, ⟨#[]⟩, false)
def markS (yr : Int) (l : List S33) : ByteArray × Bool := match allOf l nLastM with
  | [x] => if (parseP (B x) yr).2 = 0 then (x, true) else (⟨#[]⟩, false)
  | _ => (⟨#[]⟩, false)
theorem AllK {l : List S33} (h : LinesOk l) (n : ByteArray) (hn : n.size ≤ 100) : Ev (fun k => head_All.f k l n) (allOf l n) := All_ok (by have := h.len; omega) h.okL (by omega)
theorem MarkS_ok {l : List S33} (h : LinesOk l) {yr : Int} (hy : YR 0 yr) (w : Bool) (t : ByteArray) (s : Bool) : Ev (fun k => use_Marks.j0 k l s w t) (w, t, s, (markS yr l).1, (markS yr l).2) := by
  have ha := AllK h nLastM (by decide)
  have hz := (h.all nLastM (by decide)).2
  unfold markS
  refine Ev.step (fun _ => use_Marks.j0.eq_2 ..) (Ev.bind ha ?_)
  match e : allOf l nLastM with
  | [] => exact Ev.neg (by simp) (Ev.now _)
  | [x] =>
    have hx := hz x (by rw [e]; simp)
    refine Ev.pos (by simp) (Ev.pos (by simp) (Ev.bind (DParse_ok x (by omega) hy) ?_))
    by_cases c : (parseP (B x) yr).2 = 0
    · refine Ev.pos c (Ev.tell ?_)
      simp only [if_pos c]
      rfl
    · refine Ev.neg c (Ev.tell ?_)
      simp only [if_neg c]
  | x :: y :: r => exact Ev.neg (by simp; omega) (Ev.now _)
theorem Marks_ok {l : List S33} (h : LinesOk l) {yr : Int} (hy : YR 0 yr) : Ev (fun k => use_Marks.f k l) ((markT l).1, (markT l).2.1, (markT l).2.2, (markS yr l).1, (markS yr l).2) := by
  have ha := AllK h nEtag (by decide)
  have hz := (h.all nEtag (by decide)).2
  have hs := MarkS_ok h hy
  unfold use_Marks.f markT
  refine Ev.bind ha ?_
  match e : allOf l nEtag with
  | [] => exact Ev.neg (by simp) (hs _ _ _)
  | [x] =>
    have hx := hz x (by rw [e]; simp)
    exact Ev.pos (by simp) (Ev.pos (by simp) (Ev.bind (Parse_ok x (by omega)) (hs _ _ _)))
  | x :: y :: r => exact Ev.neg (by simp; omega) (hs _ _ _)
theorem tag_cases (L : List UInt8) : ((tagOf L).2.2 = true ∧ L.length ≤ 4000 ∧ (tagOf L).2.1.length ≤ L.length) ∨ tagOf L = (false, [], false) := by
  by_cases h : (tagOf L).2.2 = true
  · refine .inl ⟨h, ?_, ?_⟩
    · unfold tagOf at h
      by_cases hl : L.length > 4000
      · rw [if_pos hl] at h; cases h
      · omega
    · have e := congrArg List.length (tag_prt h)
      unfold prt at e
      simp only [List.length_append, List.length_cons, List.length_nil] at e
      omega
  · refine .inr ?_
    unfold tagOf at h ⊢
    by_cases hl : L.length > 4000
    · rw [if_pos hl]
    · rw [if_neg hl] at h ⊢
      generalize tag0 (if tagW L = true then List.drop 2 L else L) = o at *
      cases o with
      | none => rfl
      | some m => exact absurd rfl h
def printM (l : List S33) : ByteArray × Bool := prtR (markT l).1 (B (markT l).2.1)
theorem markT_cases (l : List S33) : (∃ x, (tagOf (B x)).2.2 = true ∧ x.size ≤ 4000 ∧ markT l = tagR (tagOf (B x)) ∧ (tagOf (B x)).2.1.length ≤ 4000) ∨ markT l = (false, ⟨#[]⟩, false) := by
  unfold markT
  match allOf l nEtag with
  | [] => exact .inr rfl
  | [x] =>
    rcases tag_cases (B x) with ⟨h1, h2, h3⟩ | h
    · exact .inl ⟨x, h1, by rw [size_B]; exact h2, rfl, by omega⟩
    · refine .inr ?_
      show tagR (tagOf (B x)) = _
      rw [h]; rfl
  | x :: y :: r => exact .inr rfl
theorem PrintM_ok (l : List S33) : Ev (fun k => etag_Print.f k (markT l).1 (markT l).2.1) (printM l) := by
  refine Print_ok _ _ ?_
  rcases markT_cases l with ⟨x, h1, h2, h3, h4⟩ | h
  · rw [h3]
    show (mk (tagOf (B x)).2.1).size ≤ _
    rw [size_B, B_mk]; omega
  · rw [h]; decide
theorem mark_print {l : List S33} (h : (markT l).2.2 = true) : (printM l).2 = true ∧ (printM l).1.size ≤ 4000 := by
  rcases markT_cases l with ⟨x, h1, h2, h3, h4⟩ | h'
  · have e := tag_prt h1
    have ep : printM l = (x, true) := by
      unfold printM
      rw [h3]
      show prtR (tagOf (B x)).1 (tagOf (B x)).2.1 = _
      unfold prtR
      rw [e, if_pos h1]; rfl
    rw [ep]; exact ⟨rfl, h2⟩
  · rw [h'] at h; cases h
/-! what is asked with -/
theorem IdxC_loop (l : List ByteArray) (s : ByteArray) (hl : l.length ≤ 1000000) : ∀ (t : List ByteArray) (i : Nat), l.drop i = t → ∃ n : Int, Ev (fun k => slices_Index_string_string.l0 k l s (l.length : Int) (i : Int)) n ∧ (n ≥ 0 ↔ s ∈ t)
  | [], i, ht => by
    have := drop_nil ht
    exact ⟨-1, Ev.step (fun _ => slices_Index_string_string.l0.eq_2 ..) (Ev.neg (by omega) (Ev.now _)), by simp⟩
  | x :: t, i, ht => by
    obtain ⟨a1, a2, a3⟩ := drop_cons ht
    by_cases h : s = x
    · refine ⟨(i : Int), Ev.step (fun _ => slices_Index_string_string.l0.eq_2 ..) (Ev.pos (by omega) (Ev.pos (by omega) (Ev.pos (by omega) (Ev.pos ?_ (Ev.now _))))), ?_⟩
      · rw [rdOf_of a2, h]
      · simp [h]
    · obtain ⟨n, hn, hi⟩ := IdxC_loop l s hl t (i + 1) a3
      refine ⟨n, Ev.step (fun _ => slices_Index_string_string.l0.eq_2 ..) (Ev.pos (by omega) (Ev.pos (by omega) (Ev.pos (by omega) (Ev.neg ?_ ?_)))), by rw [hi]; simp [h]⟩
      · rw [rdOf_of a2, toList_B, toList_B]
        exact fun q => h (B_inj q)
      · rw [wrap_id (x := (i : Int) + 1) (by omega) (by omega), cast_succ]
        exact hn
def memB (l : List ByteArray) (s : ByteArray) : Bool := l.any fun x => decide (x = s)
theorem memB_iff (l : List ByteArray) (s : ByteArray) : memB l s = true ↔ s ∈ l := by
  unfold memB
  rw [List.any_eq_true]
  constructor
  · rintro ⟨x, hx, e⟩
    rw [← of_decide_eq_true e]; exact hx
  · exact fun h => ⟨s, h, decide_eq_true rfl⟩
theorem Contains_ok (l : List ByteArray) (s : ByteArray) (hl : l.length ≤ 1000000) : Ev (fun k => slices_Contains_string_string.f k l s) (memB l s) := by
  obtain ⟨n, hn, hi⟩ := IdxC_loop l s hl l 0 rfl
  unfold slices_Contains_string_string.f
  exact Ev.bind hn (Ev.tell (by rw [Bool.eq_iff_iff, decide_eq_true_iff, memB_iff]; exact hi))
def stepT (acc : List ByteArray) (y : List S33) : List ByteArray := if (markT y).2.2 = true then (if (printM y).2 = true then (if memB acc (printM y).1 = true then acc else acc ++ [(printM y).1]) else acc) else acc
theorem stepT_len (acc : List ByteArray) (y : List S33) : (stepT acc y).length ≤ acc.length + 1 := by
  unfold stepT
  (repeat' split) <;> simp
theorem stepT_old {acc : List ByteArray} {y : List S33} {x : ByteArray} (h : x ∈ acc) : x ∈ stepT acc y := by
  unfold stepT
  (repeat' split) <;> simp [h]
theorem stepT_new {acc : List ByteArray} {y : List S33} (h : (markT y).2.2 = true) : (printM y).1 ∈ stepT acc y := by
  unfold stepT
  rw [if_pos h, if_pos (mark_print h).1]
  split
  · rename_i q; exact (memB_iff _ _).1 q
  · simp
theorem stepT_size {acc : List ByteArray} {y : List S33} (ha : ∀ x ∈ acc, x.size ≤ 4000) : ∀ x ∈ stepT acc y, x.size ≤ 4000 := by
  intro x hx
  unfold stepT at hx
  by_cases h : (markT y).2.2 = true
  · rw [if_pos h, if_pos (mark_print h).1] at hx
    split at hx
    · exact ha x hx
    · rcases List.mem_append.1 hx with q | q
      · exact ha x q
      · rw [List.mem_singleton.1 q]; exact (mark_print h).2
  · rw [if_neg h] at hx; exact ha x hx
def tagsM (ls : List (List S33)) : List ByteArray := ls.foldl stepT []
theorem fold_facts : ∀ (ls : List (List S33)) (acc : List ByteArray), (∀ x ∈ acc, x.size ≤ 4000) → (ls.foldl stepT acc).length ≤ acc.length + ls.length ∧ (∀ x ∈ ls.foldl stepT acc, x.size ≤ 4000) ∧ (∀ x ∈ acc, x ∈ ls.foldl stepT acc) ∧ ∀ y ∈ ls, (markT y).2.2 = true → (printM y).1 ∈ ls.foldl stepT acc
  | [], acc, h => ⟨by simp, h, fun x hx => hx, by simp⟩
  | y :: r, acc, h => by
    obtain ⟨h1, h2, h3, h4⟩ := fold_facts r (stepT acc y) (stepT_size h)
    have hl := stepT_len acc y
    rw [List.foldl_cons, List.length_cons]
    refine ⟨by omega, h2, fun x hx => h3 x (stepT_old hx), fun z hz hm => ?_⟩
    rcases List.mem_cons.1 hz with rfl | hz
    · exact h3 _ (stepT_new hm)
    · exact h4 z hz hm
def layOf (xs : List S33) (n v : ByteArray) : List S33 := if xs.length ≥ 64 then xs else if vl v = true then xs ++ [(⟨n, v⟩ : S33)] else xs
theorem Lay_ok (xs : List S33) (n v : ByteArray) (hv : v.size ≤ 9223372036854775807) : Ev (fun k => use_lay.f k xs n v) (layOf xs n v) := by
  unfold use_lay.f layOf
  by_cases h : xs.length ≥ 64
  · rw [if_pos h]
    exact Ev.pos (by omega) (Ev.now _)
  · rw [if_neg h]
    refine Ev.neg (by omega) (Ev.bind (Value_ok v hv) ?_)
    cases vl v
    · exact Ev.neg (by simp) (Ev.tell (by simp))
    · exact Ev.pos rfl (Ev.pos (by omega) (Ev.tell (by simp)))
def joinC (l : List ByteArray) : List UInt8 := Lib.join (l.map (·.data.toList)) [44, 32]
theorem tail_len : ∀ (l : List ByteArray), (∀ x ∈ l, x.size ≤ 4000) → (Lib.joinTail [44, 32] (l.map (·.data.toList))).length ≤ l.length * 4002
  | [], _ => by simp [Lib.joinTail]
  | x :: l, h => by
    have h1 := h x (by simp)
    have h2 := tail_len l (fun y hy => h y (List.mem_cons_of_mem _ hy))
    have e : x.data.toList.length = x.size := (size_B x).symm
    unfold Lib.joinTail at h2 ⊢
    simp only [List.map_cons, List.flatten_cons, List.length_append, List.length_cons, List.length_nil] at h2 ⊢
    omega
theorem join_len (l : List ByteArray) (h : ∀ x ∈ l, x.size ≤ 4000) : (joinC l).length ≤ l.length * 4002 := by
  unfold joinC
  cases l with
  | nil => simp [Lib.join, List.intercalate]
  | cons x l =>
    have h1 := h x (by simp)
    have h2 := tail_len l (fun y hy => h y (List.mem_cons_of_mem _ hy))
    have e : x.data.toList.length = x.size := (size_B x).symm
    rw [List.map_cons, Lib.join_cons, List.length_append, List.length_cons]
    omega
theorem tail_part : ∀ (l : List ByteArray) (t : ByteArray), t ∈ l → ∃ a c, Lib.joinTail [44, 32] (l.map (·.data.toList)) = a ++ (B t ++ c)
  | [], t, h => by simp at h
  | x :: l, t, h => by
    rcases List.mem_cons.1 h with rfl | h
    · refine ⟨[44, 32], Lib.joinTail [44, 32] (l.map (·.data.toList)), ?_⟩
      unfold Lib.joinTail B
      simp
    · obtain ⟨a, c, e⟩ := tail_part l t h
      refine ⟨[44, 32] ++ x.data.toList ++ a, c, ?_⟩
      unfold Lib.joinTail at e ⊢
      rw [List.map_cons, List.map_cons, List.flatten_cons, e]
      simp
theorem join_part (l : List ByteArray) (t : ByteArray) (h : t ∈ l) : ∃ a c, joinC l = a ++ (B t ++ c) := by
  unfold joinC
  cases l with
  | nil => simp at h
  | cons x l =>
    rw [List.map_cons, Lib.join_cons]
    rcases List.mem_cons.1 h with rfl | h
    · exact ⟨[], _, rfl⟩
    · obtain ⟨a, c, e⟩ := tail_part l t h
      exact ⟨x.data.toList ++ a, c, by rw [e, List.append_assoc]⟩
theorem JoinC_ok (l : List ByteArray) (hl : l.length ≤ 1000) (h : ∀ x ∈ l, x.size ≤ 4000) : strings_Join.f l (⟨#[44, 32]⟩ : ByteArray) = some (mk (joinC l)) := by
  have := join_len l h
  have h2 : (Lib.join (l.map (·.data.toList)) (⟨#[44, 32]⟩ : ByteArray).data.toList).length ≤ 140737488355328 := by
    show (joinC l).length ≤ _
    omega
  unfold strings_Join.f
  rw [if_pos ⟨by omega, h2⟩]; rfl
theorem Within_loop (v s : ByteArray) (hv : v.size ≤ 1000000000) (a c : List UInt8) (e : B v = a ++ (B s ++ c)) : ∀ (n i : Nat), a.length - i = n → i ≤ a.length → Ev (fun k => sprlaw21_within.l0 k v s (i : Int)) true := by
  have hz : v.size = a.length + (s.size + c.length) := by rw [size_B, e, List.length_append, List.length_append, ← size_B]
  intro n
  induction n with
  | zero =>
    intro i h hi
    obtain rfl : i = a.length := by omega
    refine Ev.step (fun _ => sprlaw21_within.l0.eq_2 ..) ?_
    rw [wrap_id (x := (a.length : Int) + (s.size : Int)) (by omega) (by omega)]
    refine Ev.pos (by omega) (Ev.pos (by omega) (Ev.pos (by omega) (Ev.pos ?_ (Ev.now _))))
    rw [toList_B, toList_B, B_extract, e, Int.toNat_natCast, show ((a.length : Int) + (s.size : Int)).toNat = a.length + s.size by omega, List.drop_left, Nat.add_sub_cancel_left, size_B, List.take_left]
  | succ n ih =>
    intro i h hi
    refine Ev.step (fun _ => sprlaw21_within.l0.eq_2 ..) ?_
    rw [wrap_id (x := (i : Int) + (s.size : Int)) (by omega) (by omega), wrap_id (x := (i : Int) + 1) (by omega) (by omega), cast_succ]
    refine Ev.pos (by omega) (Ev.pos (by omega) (Ev.pos (by omega) (Ev.ite (fun _ => Ev.now _) (fun _ => ih (i + 1) (by omega) (by omega)))))
theorem Within_ok (v s : ByteArray) (hv : v.size ≤ 1000000000) (h : ∃ a c, B v = a ++ (B s ++ c)) : Ev (fun k => sprlaw21_within.f k v s) true := by
  obtain ⟨a, c, e⟩ := h
  exact Within_loop v s hv a c e _ 0 rfl (by omega)
def askOf (yr : Int) (l : List S33) (ls : List (List S33)) (m : List S33) : List S33 :=
  if (markS yr m).2 = true then layOf (if (tagsM ls).length > 0 then layOf l nINM (mk (joinC (tagsM ls))) else l) nIMS (markS yr m).1 else (if (tagsM ls).length > 0 then layOf l nINM (mk (joinC (tagsM ls))) else l)
theorem rdL (ls : List (List S33)) (i : Nat) (y : List S33) (h : ls[i]? = some y) : rd_L2 ls (i : Int) = y := by
  unfold rd_L2; rw [Int.toNat_natCast, List.getD_eq_getElem?_getD, h]; rfl
theorem markS_size {l : List S33} (h : LinesOk l) (yr : Int) : (markS yr l).1.size ≤ 1100000 := by
  have hz := (h.all nLastM (by decide)).2
  unfold markS
  match e : allOf l nLastM with
  | [] => exact (by decide : (⟨#[]⟩ : ByteArray).size ≤ 1100000)
  | [x] =>
    have hx := hz x (by rw [e]; simp)
    show (if (parseP (B x) yr).2 = 0 then (x, true) else ((⟨#[]⟩ : ByteArray), false)).1.size ≤ _
    split
    · exact hx
    · decide
  | x :: y :: r => exact (by decide : (⟨#[]⟩ : ByteArray).size ≤ 1100000)
theorem Ask_loop (l m : List S33) (hm : LinesOk m) {yr : Int} (hy : YR 0 yr) (ls : List (List S33)) (hls : ls.length ≤ 20) (hok : ∀ y ∈ ls, LinesOk y) : ∀ (t : List (List S33)) (i : Nat) (acc : List ByteArray), ls.drop i = t → acc.length ≤ i → i ≤ ls.length → t.foldl stepT acc = tagsM ls → Ev (fun k => use_Ask.l0 k m l acc ls (ls.length : Int) (i : Int)) (askOf yr l ls m)
  | [], i, acc, h, ha, hi, hf => by
    have := drop_nil h
    have ht : acc = tagsM ls := hf
    obtain ⟨f1, f2, _, _⟩ := fold_facts ls [] (by simp)
    have f1 : (tagsM ls).length ≤ 0 + ls.length := f1
    have f2 : ∀ x ∈ tagsM ls, x.size ≤ 4000 := f2
    have hj : ∀ x : List S33, Ev (fun k => use_Ask.j1 k m x) (if (markS yr m).2 = true then layOf x nIMS (markS yr m).1 else x) := by
      intro x
      refine Ev.step (fun _ => use_Ask.j1.eq_2 ..) (Ev.bind (Marks_ok hm hy) ?_)
      have hz : (markS yr m).1.size ≤ 9223372036854775807 := Nat.le_trans (markS_size hm yr) (by decide)
      by_cases c : (markS yr m).2 = true
      · rw [if_pos c]
        exact Ev.pos c (Ev.bind (Lay_ok x nIMS _ hz) (Ev.now _))
      · rw [if_neg c]
        exact Ev.neg c (Ev.now _)
    refine Ev.step (fun _ => use_Ask.l0.eq_2 ..) (Ev.neg (by omega) ?_)
    rw [ht]
    unfold askOf
    by_cases c : (tagsM ls).length > 0
    · rw [if_pos c]
      have hjl := join_len (tagsM ls) f2
      exact Ev.pos (by omega) (Ev.bnd (JoinC_ok _ (by omega) f2) (Ev.bind (Lay_ok l nINM _ (by rw [size_B, B_mk]; omega)) (hj _)))
    · rw [if_neg c]
      exact Ev.neg (by omega) (hj _)
  | y :: t, i, acc, h, ha, hi, hf => by
    obtain ⟨a1, a2, a3⟩ := drop_cons h
    have hyk := hok y (List.mem_of_getElem? a2)
    have ih := Ask_loop l m hm hy ls hls hok t (i + 1) (stepT acc y) a3 (by have := stepT_len acc y; omega) (by omega) hf
    refine Ev.step (fun _ => use_Ask.l0.eq_2 ..) (Ev.pos (by omega) (Ev.pos (by omega) (Ev.pos (by omega) ?_)))
    rw [rdL ls i y a2, wrap_id (x := (i : Int) + 1) (by omega) (by omega), cast_succ]
    refine Ev.bind (Marks_ok hyk hy) (Ev.bind (PrintM_ok y) ?_)
    unfold stepT at ih
    by_cases c1 : (markT y).2.2 = true
    · rw [if_pos c1] at ih
      refine Ev.pos c1 ?_
      by_cases c2 : (printM y).2 = true
      · rw [if_pos c2] at ih
        refine Ev.pos c2 (Ev.bind (Contains_ok acc _ (by omega)) ?_)
        by_cases c3 : memB acc (printM y).1 = true
        · rw [if_pos c3] at ih
          exact Ev.pos c3 ih
        · rw [if_neg c3] at ih
          exact Ev.neg c3 (Ev.pos (by omega) ih)
      · rw [if_neg c2] at ih
        exact Ev.neg c2 ih
    · rw [if_neg c1] at ih
      exact Ev.neg c1 ih
theorem Ask_ok (l m : List S33) (hl : l.length ≤ 80) (hm : LinesOk m) {yr : Int} (hy : YR 0 yr) (ls : List (List S33)) (hls : ls.length ≤ 20) (hok : ∀ y ∈ ls, LinesOk y) : Ev (fun k => use_Ask.f k l ls m) (askOf yr l ls m) := by
  unfold use_Ask.f
  refine Ev.bnd (a := l) (by unfold slices_CloneL.f; rw [if_pos (by omega)]) ?_
  exact Ask_loop l m hm hy ls hls hok ls 0 [] rfl (by simp) (by omega) rfl
/-- A line that may stand behind those that were asked. -/
def goodL (ls : List (List S33)) (since : ByteArray) (ok : Bool) (e : S33) : Prop :=
  (e.f0 = nIMS ∧ ok = true ∧ e.f1 = since) ∨ (e.f0 = nINM ∧ e.f1.size ≤ 1000000000 ∧ ∀ y ∈ ls, (markT y).2.2 = true → ∃ a c, B e.f1 = a ++ (B (printM y).1 ++ c))
theorem lay_more (xs : List S33) (n v : ByteArray) : ∃ t, layOf xs n v = xs ++ t ∧ t.length ≤ 1 ∧ ∀ e ∈ t, e = (⟨n, v⟩ : S33) := by
  unfold layOf
  split
  · exact ⟨[], by simp, by simp, by simp⟩
  · split
    · exact ⟨[(⟨n, v⟩ : S33)], rfl, by simp, by simp⟩
    · exact ⟨[], by simp, by simp, by simp⟩
theorem ask_more (yr : Int) (l : List S33) (ls : List (List S33)) (m : List S33) (hls : ls.length ≤ 20) : ∃ t, askOf yr l ls m = l ++ t ∧ t.length ≤ 2 ∧ ∀ e ∈ t, goodL ls (markS yr m).1 (markS yr m).2 e := by
  obtain ⟨f1, f2, _, f4⟩ := fold_facts ls [] (by simp)
  have f1 : (tagsM ls).length ≤ 0 + ls.length := f1
  have f2 : ∀ x ∈ tagsM ls, x.size ≤ 4000 := f2
  have f4 : ∀ y ∈ ls, (markT y).2.2 = true → (printM y).1 ∈ tagsM ls := f4
  have hjl := join_len (tagsM ls) f2
  have gI : goodL ls (markS yr m).1 (markS yr m).2 (⟨nINM, mk (joinC (tagsM ls))⟩ : S33) := .inr ⟨rfl, by show (mk (joinC (tagsM ls))).size ≤ _; rw [size_B, B_mk]; omega, fun y hy hm => join_part _ _ (f4 y hy hm)⟩
  have h1 : ∃ t, (if (tagsM ls).length > 0 then layOf l nINM (mk (joinC (tagsM ls))) else l) = l ++ t ∧ t.length ≤ 1 ∧ ∀ e ∈ t, goodL ls (markS yr m).1 (markS yr m).2 e := by
    split
    · obtain ⟨t, e1, e2, e3⟩ := lay_more l nINM (mk (joinC (tagsM ls)))
      exact ⟨t, e1, e2, fun e he => by rw [e3 e he]; exact gI⟩
    · exact ⟨[], by simp, by simp, by simp⟩
  obtain ⟨t, e1, e2, e3⟩ := h1
  unfold askOf
  rw [e1]
  by_cases c : (markS yr m).2 = true
  · rw [if_pos c]
    obtain ⟨u, u1, u2, u3⟩ := lay_more (l ++ t) nIMS (markS yr m).1
    refine ⟨t ++ u, by rw [u1, List.append_assoc], by rw [List.length_append]; omega, fun e he => ?_⟩
    rcases List.mem_append.1 he with q | q
    · exact e3 e q
    · rw [u3 e q]; exact .inl ⟨rfl, c, rfl⟩
  · rw [if_neg c]
    exact ⟨t, rfl, by omega, e3⟩
theorem first21_ok : Ev (fun k => sprlaw21_first.f k) true := Ev.now _
theorem tags_loop (ls : List (List S33)) (hls : ls.length ≤ 20) (hok : ∀ y ∈ ls, LinesOk y) {yr : Int} (hy : YR 0 yr) (x : List S33) (hx : x.length ≤ 1000) (since : ByteArray) (ok : Bool) (i : Nat) (e : S33) (hi : x[i]? = some e) (hs : e.f1.size ≤ 1000000000) (hg : ∀ y ∈ ls, (markT y).2.2 = true → ∃ a c, B e.f1 = a ++ (B (printM y).1 ++ c))
    (next : Ev (fun k => sprlaw21_UseMarks.l1 k ls x since ok ((i + 1 : Nat) : Int)) true) : ∀ (t : List (List S33)) (j : Nat), ls.drop j = t → Ev (fun k => sprlaw21_UseMarks.l2 k ls x since ok (i : Int) (j : Int)) true
  | [], j, h => by
    have := drop_nil h
    have hil := (List.getElem?_eq_some_iff.1 hi).1
    refine Ev.step (fun _ => sprlaw21_UseMarks.l2.eq_2 ..) (Ev.neg (by omega) ?_)
    rw [wrap_id (x := (i : Int) + 1) (by omega) (by omega), cast_succ]
    exact next
  | y :: t, j, h => by
    obtain ⟨a1, a2, a3⟩ := drop_cons h
    have hil := (List.getElem?_eq_some_iff.1 hi).1
    have hyl := List.mem_of_getElem? a2
    have ih := tags_loop ls hls hok hy x hx since ok i e hi hs hg next t (j + 1) a3
    have hr : rd_T33 x (i : Int) = e := by unfold rd_T33; rw [Int.toNat_natCast, List.getD_eq_getElem?_getD, hi]; rfl
    refine Ev.step (fun _ => sprlaw21_UseMarks.l2.eq_2 ..) (Ev.pos (by omega) (Ev.pos (by omega) ?_))
    rw [rdL ls j y a2, hr, wrap_id (x := (j : Int) + 1) (by omega) (by omega), cast_succ]
    refine Ev.bind (Marks_ok (hok y hyl) hy) (Ev.bind (PrintM_ok y) ?_)
    by_cases c1 : (markT y).2.2 = true
    · exact Ev.pos c1 (Ev.pos (mark_print c1).1 (Ev.pos (by omega) (Ev.pos (by omega) (Ev.bind (Within_ok _ _ hs (hg y hyl c1)) (Ev.pos rfl ih)))))
    · exact Ev.neg c1 ih
theorem more_loop (ls : List (List S33)) (hls : ls.length ≤ 20) (hok : ∀ y ∈ ls, LinesOk y) {yr : Int} (hy : YR 0 yr) (x : List S33) (hx : x.length ≤ 1000) (since : ByteArray) (ok : Bool) : ∀ (t : List S33) (i : Nat), x.drop i = t → (∀ e ∈ t, goodL ls since ok e) → Ev (fun k => sprlaw21_UseMarks.l1 k ls x since ok (i : Int)) true
  | [], i, h, hg => by
    have := drop_nil h
    exact Ev.step (fun _ => sprlaw21_UseMarks.l1.eq_2 ..) (Ev.neg (by omega) (Ev.bind first21_ok (Ev.now _)))
  | e :: t, i, h, hg => by
    obtain ⟨a1, a2, a3⟩ := drop_cons h
    have ih := more_loop ls hls hok hy x hx since ok t (i + 1) a3 (fun z hz => hg z (List.mem_cons_of_mem _ hz))
    have hr : rd_T33 x (i : Int) = e := by unfold rd_T33; rw [Int.toNat_natCast, List.getD_eq_getElem?_getD, a2]; rfl
    refine Ev.step (fun _ => sprlaw21_UseMarks.l1.eq_2 ..) (Ev.pos (by omega) (Ev.pos (by omega) ?_))
    rw [hr]
    rcases hg e List.mem_cons_self with ⟨q1, q2, q3⟩ | ⟨q1, q2, q3⟩
    · refine Ev.pos (by rw [q1]; decide +kernel) (Ev.pos q2 (Ev.pos (by rw [q3]) ?_))
      rw [wrap_id (x := (i : Int) + 1) (by omega) (by omega), cast_succ]
      exact ih
    · refine Ev.neg (by rw [q1]; decide +kernel) (Ev.pos (by rw [q1]; decide +kernel) ?_)
      exact tags_loop ls hls hok hy x hx since ok i e a2 q2 q3 ih ls 0 rfl
theorem few_loop (l : List S33) (ls : List (List S33)) (m : List S33) (hls : ls.length ≤ 20) (fin : (∀ y ∈ ls, y.length ≤ 80 ∧ ∀ x ∈ y, 1 ≤ x.f0.size → x.f1.size ≤ 20000) → Ev (fun k => sprlaw21_UseMarks.l0 k l ls m (ls.length : Int)) true) : ∀ (t : List (List S33)) (i : Nat), ls.drop i = t → i ≤ ls.length → (∀ y ∈ ls.take i, y.length ≤ 80 ∧ ∀ x ∈ y, 1 ≤ x.f0.size → x.f1.size ≤ 20000) → Ev (fun k => sprlaw21_UseMarks.l0 k l ls m (i : Int)) true
  | [], i, h, hi, hb => by
    have := drop_nil h
    obtain rfl : i = ls.length := by omega
    rw [List.take_length] at hb
    exact fin hb
  | y :: t, i, h, hi, hb => by
    obtain ⟨a1, a2, a3⟩ := drop_cons h
    obtain ⟨b, e, hf⟩ := Few_ok y
    refine Ev.step (fun _ => sprlaw21_UseMarks.l0.eq_2 ..) (Ev.pos (by omega) (Ev.pos (by omega) ?_))
    rw [rdL ls i y a2, wrap_id (x := (i : Int) + 1) (by omega) (by omega), cast_succ]
    refine Ev.bind e ?_
    cases b with
    | false => exact Ev.neg (by simp) (Ev.bind first21_ok (Ev.now _))
    | true =>
      refine Ev.pos rfl (Ev.ite (fun _ => Ev.bind first21_ok (Ev.now _)) (fun _ => ?_))
      refine few_loop l ls m hls fin t (i + 1) a3 (by omega) (fun z hz => ?_)
      rw [List.take_add_one, a2] at hz
      rcases List.mem_append.1 hz with q | q
      · exact hb z q
      · have : z = y := by simpa using q
        subst this; exact hf rfl
theorem UseMarks (l : List S33) (ls : List (List S33)) (m : List S33) (g0 : l.length ≤ maxLen ∧ ∀ x ∈ l, x.f0.size ≤ maxLen ∧ x.f1.size ≤ maxLen) (g1 : ls.length ≤ maxLen ∧ ∀ y ∈ ls, y.length ≤ maxLen ∧ ∀ x ∈ y, x.f0.size ≤ maxLen ∧ x.f1.size ≤ maxLen) (g2 : m.length ≤ maxLen ∧ ∀ x ∈ m, x.f0.size ≤ maxLen ∧ x.f1.size ≤ maxLen) : ∃ k, sprlaw21_UseMarks.f k l ls m = some true := by
  suffices hE : Ev (fun k => sprlaw21_UseMarks.f k l ls m) true by
    obtain ⟨k, hk⟩ := hE
    exact ⟨k, hk k (Nat.le_refl _)⟩
  have big : Ev (fun k => sprlaw21_UseMarks.j0 k l ls m true) true := Ev.step (fun _ => sprlaw21_UseMarks.j0.eq_2 ..) (Ev.pos rfl (Ev.bind first21_ok (Ev.now _)))
  unfold sprlaw21_UseMarks.f
  refine Ev.bind first21_ok (Ev.pos rfl ?_)
  obtain ⟨b0, hb0, hf0⟩ := Few_ok l
  refine Ev.bind hb0 ?_
  cases b0 with
  | false => exact Ev.neg (by simp) big
  | true =>
  refine Ev.pos rfl ?_
  obtain ⟨b1, hb1, hf1⟩ := Few_ok m
  refine Ev.bind hb1 ?_
  cases b1 with
  | false => exact Ev.neg (by simp) big
  | true =>
  refine Ev.pos rfl ?_
  by_cases hs : (ls.length : Int) > 20
  · rw [decide_eq_true hs]; exact big
  rw [decide_eq_false hs]
  have l0 := hf0 rfl
  have l1 := hf1 rfl
  have hm : LinesOk m := LinesOk.of g2 l1
  have hls : ls.length ≤ 20 := by omega
  obtain ⟨yr, hy⟩ := yr_ex 0
  refine Ev.step (fun _ => sprlaw21_UseMarks.j0.eq_2 ..) (Ev.neg (by simp) ?_)
  refine few_loop l ls m hls (fun hb => ?_) ls 0 rfl (by omega) (by simp)
  have hok : ∀ y ∈ ls, LinesOk y := fun y hy' => LinesOk.of (g1.2 y hy') (hb y hy')
  obtain ⟨t, e1, e2, e3⟩ := ask_more yr l ls m hls
  have hA := Ask_ok l m l0.1 hm hy ls hls hok
  rw [e1] at hA
  have hlen : (l ++ t).length = l.length + t.length := List.length_append
  have hF := Fields_ok l l (by omega)
  rw [decide_eq_true rfl] at hF
  have hM := more_loop ls hls hok hy (l ++ t) (by omega) (markS yr m).1 (markS yr m).2 t l.length (List.drop_left) e3
  refine Ev.step (fun _ => sprlaw21_UseMarks.l0.eq_2 ..) (Ev.neg (by omega) (Ev.bind hA (Ev.neg (by omega) ?_)))
  rw [wrap_id (x := (l.length : Int) + 2) (by omega) (by omega)]
  refine Ev.neg (by omega) (Ev.pos (by omega) (Ev.pos (by omega) ?_))
  rw [Int.toNat_natCast, List.take_left]
  refine Ev.bind hF (Ev.step (fun _ => sprlaw21_UseMarks.j2.eq_2 ..) (Ev.neg (by simp) (Ev.bind (Marks_ok hm hy) hM)))

end Go.Proofs.YtfjeagglminhoaaGreatDoor.Pure
