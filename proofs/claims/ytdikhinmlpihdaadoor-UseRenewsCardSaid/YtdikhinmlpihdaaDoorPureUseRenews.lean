/-
The law UseRenews: renewed lines have the new values of what is not held back, and the old ones of all else; renewed again they are the same; told lines have their age, and all else.
-/
import Derived.Test.YtdikhinmlpihdaaDoorR8
set_option linter.unusedVariables false
set_option linter.unusedSimpArgs false
namespace Go.Proofs.YtdikhinmlpihdaaDoor.Pure
open Go.RowKit Go.Proofs.YtdikhinmlpihdaaDoor.R Go.Proofs.YtdikhinmlpihdaaDoorW.PrintWords Go.Proofs.YtdikhinmlpihdaaDoorW.PrintLast
theorem wrap_id {x : Int} (h0 : -9223372036854775808 ≤ x) (h1 : x ≤ 9223372036854775807) : wrap64 x = x := by unfold wrap64; omega
theorem Ev.succ {α : Type} {g : Nat → Option α} {r : α} (h : Ev (fun k => g (k + 1)) r) : Ev g r := Ev.step (fun _ => rfl) h
theorem Ev.konst {α : Type} {o : Option α} {r : α} (h : o = some r) : Ev (fun _ => o) r := ⟨0, fun _ _ => h⟩
theorem Ev.at {α : Type} {g : Nat → Option α} {r : α} (K : Nat) (h : ∀ k, g (k + K) = some r) : Ev g r := ⟨K, fun n hn => by
  obtain ⟨m, rfl⟩ : ∃ m, n = m + K := ⟨n - K, by omega⟩
  exact h m⟩
theorem drop_cons {α : Type} {l : List α} {i : Nat} {c : α} {t : List α} (h : l.drop i = c :: t) : i < l.length ∧ l[i]? = some c ∧ l.drop (i + 1) = t := by
  have h1 : (l.drop i)[0]? = some c := by rw [h]; rfl
  rw [List.getElem?_drop] at h1
  simp only [Nat.add_zero] at h1
  refine ⟨(List.getElem?_eq_some_iff.1 h1).1, h1, ?_⟩
  rw [← List.drop_drop, h]; rfl
theorem drop_nil {α : Type} {l : List α} {i : Nat} (h : l.drop i = []) : l.length ≤ i := by
  simpa using h
theorem rd_of {l : List Int} {i : Nat} {c : Int} (h : l[i]? = some c) : rd l (i : Int) = c := by
  unfold rd; rw [Int.toNat_natCast, List.getD_eq_getElem?_getD, h]; rfl
theorem rdOf_of {α : Type} {d : α} {l : List α} {i : Nat} {c : α} (h : l[i]? = some c) : rdOf d l (i : Int) = c := by
  unfold rdOf; rw [Int.toNat_natCast, List.getD_eq_getElem?_getD, h]; rfl
theorem cast_succ (i : Nat) : ((i : Int) + 1) = ((i + 1 : Nat) : Int) := by omega
theorem Ev.pos {α : Type} {c : Prop} [Decidable c] {A B : Nat → Option α} {r : α} (h : c) (k : Ev A r) : Ev (fun n => if c then A n else B n) r := Ev.congr (fun _ => if_pos h) k
theorem Ev.neg {α : Type} {c : Prop} [Decidable c] {A B : Nat → Option α} {r : α} (h : ¬ c) (k : Ev B r) : Ev (fun n => if c then A n else B n) r := Ev.congr (fun _ => if_neg h) k
theorem Ev.bnd {α β : Type} {o : Option β} {a : β} {f : Nat → β → Option α} {r : α} (h : o = some a) (k : Ev (fun n => f n a) r) : Ev (fun n => o.bind (f n)) r := by
  subst h; exact k
/-- A text's bytes. -/
def B (s : ByteArray) : List UInt8 := s.data.toList
def mk (l : List UInt8) : ByteArray := ⟨l.toArray⟩
theorem B_mk (l : List UInt8) : B (mk l) = l := rfl
theorem mk_B (s : ByteArray) : mk (B s) = s := rfl
theorem B_inj {s t : ByteArray} (h : B s = B t) : s = t := by rw [← mk_B s, ← mk_B t, h]
theorem toList_B (s : ByteArray) : s.toList = B s := Lib.toList_data s
theorem size_B (s : ByteArray) : s.size = (B s).length := Lib.size_eq s
theorem B_extract (s : ByteArray) (a b : Nat) : B (s.extract a b) = ((B s).drop a).take (b - a) := Lib.extract_data s a b
theorem B_append (s t : ByteArray) : B (s ++ t) = B s ++ B t := by
  unfold B
  rw [ByteArray.data_append, Array.toList_append]
theorem B_to (s : ByteArray) (n : Nat) : B (s.extract 0 n) = (B s).take n := by rw [B_extract, List.drop_zero, Nat.sub_zero]
theorem B_from (s : ByteArray) (n : Nat) : B (s.extract n s.size) = (B s).drop n := by
  rw [B_extract, size_B]
  exact List.take_of_length_le (by rw [List.length_drop]; omega)
theorem bt_of {s : ByteArray} {i : Nat} {c : UInt8} (h : (B s)[i]? = some c) : bt s (i : Int) = (c.toNat : Int) := by
  unfold bt
  have hi : i < s.size := by rw [size_B]; exact (List.getElem?_eq_some_iff.1 h).1
  rw [Int.toNat_natCast, dif_pos hi]
  have : (s[i]'hi) = c := by
    have h1 : (B s)[i]? = some (s[i]'hi) := by
      unfold B
      rw [Array.getElem?_toList]
      exact Array.getElem?_eq_getElem _
    rw [h1] at h
    exact Option.some.inj h
  rw [this]
/-- The byte that a suffix begins with. -/
theorem bt_drop {s : ByteArray} {i : Nat} {c : UInt8} {t : List UInt8} (h : (B s).drop i = c :: t) : bt s (i : Int) = (c.toNat : Int) ∧ i < s.size ∧ (B s).drop (i + 1) = t := by
  obtain ⟨h1, h2, h3⟩ := drop_cons h
  exact ⟨bt_of h2, by rw [size_B]; exact h1, h3⟩
theorem end_drop {s : ByteArray} {i : Nat} (h : (B s).drop i = []) : s.size ≤ i := by rw [size_B]; exact drop_nil h
theorem u8_eq (c : UInt8) (n : Nat) (h : n < 256) : ((c.toNat : Int) = (n : Int)) ↔ c = UInt8.ofNat n := by
  constructor
  · intro e
    have e' : c.toNat = n := by omega
    rw [← e']; exact (UInt8.ofNat_toNat).symm
  · intro e
    rw [e, UInt8.toNat_ofNat']
    have : n % 2 ^ 8 = n := Nat.mod_eq_of_lt h
    omega
theorem u8_lt (c : UInt8) : (c.toNat : Int) < 256 ∧ 0 ≤ (c.toNat : Int) := by
  have := UInt8.toNat_lt c
  omega
/-! names in small letters -/
theorem lowb_low (c : UInt8) : Own.lowb (Own.lowb c) = Own.lowb c := by
  by_cases h : 65 ≤ c.toNat ∧ c.toNat ≤ 90
  · have e : Own.lowb c = c + 32 := by unfold Own.lowb; rw [if_pos h]
    have h2 : (c + 32).toNat = c.toNat + 32 := by
      rw [UInt8.toNat_add]
      show (c.toNat + 32) % 256 = _
      omega
    rw [e]
    unfold Own.lowb
    rw [if_neg (by omega)]
  · have e : Own.lowb c = c := by unfold Own.lowb; rw [if_neg h]
    rw [e, e]
theorem low_low (s : ByteArray) : Own.low (Own.low s) = Own.low s := by
  apply B_inj
  show ((s.data.toList.map Own.lowb).map Own.lowb) = s.data.toList.map Own.lowb
  rw [List.map_map]
  congr 1
  funext c
  exact lowb_low c
theorem low_size (s : ByteArray) : (Own.low s).size = s.size := by
  rw [size_B, size_B s]
  show (s.data.toList.map Own.lowb).length = _
  rw [List.length_map]; rfl
theorem same_iff (a b : ByteArray) : Own.same a b = true ↔ Own.low a = Own.low b := by
  unfold Own.same
  rw [toList_B, toList_B, beq_iff_eq]
  exact ⟨B_inj, fun h => by rw [h]⟩
theorem same_congr {a a' b b' : ByteArray} (h1 : Own.low a = Own.low a') (h2 : Own.low b = Own.low b') : Own.same a b = Own.same a' b' := by
  rw [Bool.eq_iff_iff, same_iff, same_iff, h1, h2]
theorem same_low (a b : ByteArray) : Own.same a (Own.low b) = Own.same a b := same_congr rfl (low_low b)
theorem same_self (a : ByteArray) : Own.same a a = true := (same_iff a a).2 rfl
theorem okS_of {s : ByteArray} (h : s.size ≤ 9223372036854775807) : Own.okS s = true := decide_eq_true h
instance : DecidableEq S32 := fun a b => decidable_of_iff (a.f0 = b.f0 ∧ a.f1 = b.f1) ⟨fun h => by cases a; cases b; cases h.1; cases h.2; rfl, fun h => by rw [h]; exact ⟨rfl, rfl⟩⟩
/-- Lines that the form lets in. -/
def okL (l : List S32) : Prop := ∀ x ∈ l, x.f0.size ≤ 9223372036854775807 ∧ x.f1.size ≤ 9223372036854775807
theorem okL.all {l : List S32} (h : okL l) : (l.all fun x => Own.okS x.f0) = true := List.all_eq_true.2 fun x hx => okS_of (h x hx).1
theorem okL.filter {l : List S32} (h : okL l) (p : S32 → Bool) : okL (l.filter p) := fun x hx => h x (List.mem_filter.1 hx).1
theorem okL.append {l m : List S32} (h : okL l) (k : okL m) : okL (l ++ m) := fun x hx => (List.mem_append.1 hx).elim (h x) (k x)
theorem allOf_append (l m : List S32) (n : ByteArray) : allOf (l ++ m) n = allOf l n ++ allOf m n := by
  unfold allOf; rw [List.filter_append, List.map_append]
theorem allOf_nil_iff (l : List S32) (n : ByteArray) : allOf l n = [] ↔ ∀ x ∈ l, Own.same x.f0 n = false := by
  unfold allOf
  rw [List.map_eq_nil_iff, List.filter_eq_nil_iff]
  exact ⟨fun h x hx => by simpa using h x hx, fun h x hx => by simpa using h x hx⟩
theorem allOf_congr (l : List S32) {a b : ByteArray} (h : Own.low a = Own.low b) : allOf l a = allOf l b := by
  unfold allOf
  congr 2
  funext x
  exact same_congr rfl h
theorem allOf_len (l : List S32) (n : ByteArray) : (allOf l n).length ≤ l.length := by
  unfold allOf; rw [List.length_map]; exact List.length_filter_le _ _
theorem Texts_loop (a b : List ByteArray) (hl : a.length = b.length) (hb : a.length ≤ 1000000000) : ∀ (s t : List ByteArray) (i : Nat), a.drop i = s → b.drop i = t → Ev (fun k => sprref_Texts.l0 k a b i) (decide (s = t))
  | [], t, i, hs, ht => by
    have h1 := drop_nil hs
    have h2 : t = [] := by rw [← ht]; exact List.drop_eq_nil_of_le (by omega)
    subst h2
    exact Ev.step (fun _ => sprref_Texts.l0.eq_2 ..) (Ev.neg (by omega) (Ev.now _))
  | c :: s, [], i, hs, ht => by
    have h1 := drop_nil ht
    have h2 := drop_cons hs
    omega
  | c :: s, d :: t, i, hs, ht => by
    obtain ⟨h1, h2, h3⟩ := drop_cons hs
    obtain ⟨g1, g2, g3⟩ := drop_cons ht
    refine Ev.step (fun _ => sprref_Texts.l0.eq_2 ..) (Ev.pos (by omega) (Ev.pos (by omega) (Ev.pos (by omega) ?_)))
    rw [rdOf_of h2, rdOf_of g2, toList_B, toList_B]
    by_cases e : c = d
    · refine Ev.pos (by rw [e]) ?_
      rw [wrap_id (by omega) (by omega), cast_succ]
      have := Texts_loop a b hl hb s t (i + 1) h3 g3
      simpa [e] using this
    · refine Ev.neg (fun h => e (B_inj h)) ?_
      exact Ev.konst (by simp [e])
theorem Texts_ok (a b : List ByteArray) (hb : a.length ≤ 1000000000) : Ev (fun k => sprref_Texts.f k a b) (decide (a = b)) := by
  unfold sprref_Texts.f
  by_cases h : a.length = b.length
  · exact Ev.pos (by omega) (Texts_loop a b h hb a b 0 rfl rfl)
  · refine Ev.neg (by omega) (Ev.konst ?_)
    have : a ≠ b := fun e => h (by rw [e])
    simp [this]
theorem Lower_ok {s : ByteArray} (h : s.size ≤ 9223372036854775807) : head_Lower.f s = some (Own.low s) := by
  unfold head_Lower.f; rw [if_pos h]
theorem All_ok {l : List S32} (hl : l.length < 4398046511104) (ho : okL l) {n : ByteArray} (hn : n.size ≤ 9223372036854775807) : Ev (fun k => head_All.f k l n) (allOf l n) :=
  Ev.of (fun k => head_All.mono _ _ k) (head_All_is l n hl (okS_of hn) (fun x hx => okS_of (ho x hx).1))
theorem Fields_loop (a b : List S32) (hl : a.length = b.length) (hb : a.length ≤ 1000000000) : ∀ (s t : List S32) (i : Nat), a.drop i = s → b.drop i = t → Ev (fun k => sprref_Fields.l0 k a b (i : Int)) (decide (s = t))
  | [], t, i, h1, h2 => by
    have := drop_nil h1
    have e : t = [] := by rw [← h2]; exact List.drop_eq_nil_of_le (by omega)
    rw [e]
    exact Ev.step (fun _ => sprref_Fields.l0.eq_2 ..) (Ev.neg (by omega) (Ev.now _))
  | x :: s, [], i, h1, h2 => by
    have := drop_nil h2
    have := (drop_cons h1).1
    omega
  | x :: s, y :: t, i, h1, h2 => by
    obtain ⟨a1, a2, a3⟩ := drop_cons h1
    obtain ⟨b1, b2, b3⟩ := drop_cons h2
    have r1 : rd_T32 a (i : Int) = x := by unfold rd_T32; rw [Int.toNat_natCast, List.getD_eq_getElem?_getD, a2]; rfl
    have r2 : rd_T32 b (i : Int) = y := by unfold rd_T32; rw [Int.toNat_natCast, List.getD_eq_getElem?_getD, b2]; rfl
    refine Ev.step (fun _ => sprref_Fields.l0.eq_2 ..) (Ev.pos (by omega) (Ev.pos (by omega) (Ev.pos (by omega) ?_)))
    rw [r1, r2, toList_B, toList_B, toList_B, toList_B]
    by_cases e0 : x.f0 = y.f0
    · refine Ev.pos (by rw [e0]) ?_
      by_cases e1 : x.f1 = y.f1
      · refine Ev.pos (by rw [e1]) ?_
        rw [wrap_id (by omega) (by omega), cast_succ]
        have e : x = y := by cases x; cases y; cases e0; cases e1; rfl
        have ih := Fields_loop a b hl hb s t (i + 1) a3 b3
        have e2 : decide (x :: s = y :: t) = decide (s = t) := by rw [e]; simp
        rw [e2]; exact ih
      · refine Ev.neg (fun h => e1 (B_inj h)) ?_
        rw [decide_eq_false (fun h => e1 (by rw [(List.cons.inj h).1]))]; exact Ev.now _
    · refine Ev.neg (fun h => e0 (B_inj h)) ?_
      rw [decide_eq_false (fun h => e0 (by rw [(List.cons.inj h).1]))]; exact Ev.now _
theorem Fields_ok (a b : List S32) (hb : a.length ≤ 1000000000) : Ev (fun k => sprref_Fields.f k a b) (decide (a = b)) := by
  unfold sprref_Fields.f
  by_cases h : a.length = b.length
  · exact Ev.pos (by omega) (Fields_loop a b h hb a b 0 rfl rfl)
  · refine Ev.neg (by omega) ?_
    rw [decide_eq_false (fun e => h (by rw [e]))]; exact Ev.now _
/-- Few lines: at most 80. -/
theorem Few_loop (l : List S32) : ∀ (t : List S32) (i : Nat) (n : Int), l.drop i = t → 0 ≤ n → n ≤ 80000 → i ≤ 80 → ∃ b, Ev (fun k => sprlaw13_Few.l0 k l n (i : Int)) b ∧ (b = true → l.length ≤ 80)
  | [], i, n, h, h0, h1, hi => by
    have := drop_nil h
    by_cases hl : l.length ≤ 80
    · exact ⟨_, Ev.step (fun _ => sprlaw13_Few.l0.eq_2 ..) (Ev.neg (by omega) (Ev.pos (by omega) (Ev.now _))), fun _ => hl⟩
    · exact ⟨false, Ev.step (fun _ => sprlaw13_Few.l0.eq_2 ..) (Ev.neg (by omega) (Ev.neg (by omega) (Ev.now _))), fun h => by cases h⟩
  | x :: t, i, n, h, h0, h1, hi => by
    obtain ⟨a1, a2, a3⟩ := drop_cons h
    by_cases h80 : i < 80
    · have mn2 : ∀ a b : Int, mn a b ≤ b ∧ (0 ≤ a → 0 ≤ b → 0 ≤ mn a b) := by intro a b; unfold mn; split <;> omega
      obtain ⟨b, hb, hf⟩ := Few_loop l t (i + 1) (mn (wrap64 ((wrap64 (n + (mn (((rd_T32 l (i : Int)).f0).size : Int) 20000))) + (mn (((rd_T32 l (i : Int)).f1).size : Int) 20000))) 80000) a3 (by
        have q1 := mn2 (((rd_T32 l (i : Int)).f0).size : Int) 20000
        have q2 := mn2 (((rd_T32 l (i : Int)).f1).size : Int) 20000
        have q3 := q1.2 (by omega) (by omega)
        have q4 := q2.2 (by omega) (by omega)
        rw [wrap_id (x := n + _) (by omega) (by omega), wrap_id (by omega) (by omega)]
        exact (mn2 _ _).2 (by omega) (by omega)) ((mn2 _ _).1) (by omega)
      refine ⟨b, Ev.step (fun _ => sprlaw13_Few.l0.eq_2 ..) (Ev.pos (by omega) (Ev.pos (by omega) (Ev.pos (by omega) ?_))), hf⟩
      rw [wrap_id (x := (i : Int) + 1) (by omega) (by omega), cast_succ]
      exact hb
    · refine ⟨false, Ev.step (fun _ => sprlaw13_Few.l0.eq_2 ..) (Ev.pos (by omega) (Ev.neg (by omega) (Ev.neg (by omega) (Ev.now _)))), fun h => by cases h⟩
theorem Few_ok (l : List S32) : ∃ b, Ev (fun k => sprlaw13_Few.f k l) b ∧ (b = true → l.length ≤ 80) := Few_loop l l 0 0 rfl (by omega) (by omega) (by omega)
theorem Merge_ok {o n : List S32} (ho : okL o) (hn : okL n) (hl : o.length + n.length ≤ 1000000) {b : List ByteArray} (hb : ∀ s ∈ b, s.size ≤ 9223372036854775807) : head_Merge.f o n b = some (mergeOf o n b) := by
  unfold head_Merge.f
  rw [if_pos ⟨by omega, ho.all, hn.all, List.all_eq_true.2 fun s hs => okS_of (hb s hs)⟩]
theorem taken_len (n : List S32) (b : List ByteArray) : (takenOf n b).length ≤ n.length := List.length_filter_le _ _
theorem merge_len (o n : List S32) (b : List ByteArray) : (mergeOf o n b).length ≤ o.length + n.length := by
  unfold mergeOf
  have h1 := List.length_filter_le (fun x => !decide (0 < (allOf (takenOf n b) x.f0).length)) o
  have h2 := taken_len n b
  rw [List.length_append]; omega
theorem merge_okL {o n : List S32} (ho : okL o) (hn : okL n) (b : List ByteArray) : okL (mergeOf o n b) := (ho.filter _).append (hn.filter _)
/-- A line of the taken ones has its name among them. -/
theorem taken_self {t : List S32} {x : S32} (hx : x ∈ t) : 0 < (allOf t x.f0).length := by
  rcases Nat.eq_zero_or_pos (allOf t x.f0).length with h | h
  · have h1 := (allOf_nil_iff t x.f0).1 (List.eq_nil_of_length_eq_zero h) x hx
    rw [same_self] at h1; cases h1
  · exact h
theorem merge_again (o n : List S32) (b : List ByteArray) : mergeOf (mergeOf o n b) n b = mergeOf o n b := by
  have e : mergeOf (mergeOf o n b) n b = ((mergeOf o n b).filter fun x => !decide (0 < (allOf (takenOf n b) x.f0).length)) ++ takenOf n b := rfl
  rw [e]
  unfold mergeOf
  rw [List.filter_append, List.filter_filter]
  have h1 : ((takenOf n b).filter fun x => !decide (0 < (allOf (takenOf n b) x.f0).length)) = [] := by
    rw [List.filter_eq_nil_iff]
    intro x hx
    rw [decide_eq_true (taken_self hx)]; simp
  rw [h1, List.append_nil]
  congr 2
  funext x
  rw [Bool.and_self]
/-- Does a name count among the new lines? -/
def isBut (b : List ByteArray) (n : ByteArray) : Bool := b.any fun s => Own.same s n
theorem isBut_congr (b : List ByteArray) {x y : ByteArray} (h : Own.low x = Own.low y) : isBut b x = isBut b y := by
  unfold isBut
  congr 1
  funext s
  exact same_congr rfl h
theorem allOf_taken (n : List S32) (b : List ByteArray) (m : ByteArray) : allOf (takenOf n b) m = if isBut b m = true then [] else allOf n m := by
  by_cases h : isBut b m = true
  · rw [if_pos h, allOf_nil_iff]
    intro x hx
    have h1 := (List.mem_filter.1 hx).2
    refine Bool.eq_false_iff.2 fun q => ?_
    have h2 := isBut_congr b ((same_iff _ _).1 q)
    rw [h] at h2
    unfold isBut at h2
    rw [h2] at h1; cases h1
  · rw [if_neg h]
    unfold allOf takenOf
    rw [List.filter_filter]
    congr 1
    apply List.filter_congr
    intro x hx
    cases hs : Own.same x.f0 m with
    | false => rfl
    | true =>
      have h2 := isBut_congr b ((same_iff _ _).1 hs)
      rw [Bool.eq_false_iff.2 h] at h2
      unfold isBut at h2
      rw [h2]; rfl
theorem allOf_merge (o n : List S32) (b : List ByteArray) (m : ByteArray) : allOf (mergeOf o n b) m = if (decide (0 < (allOf n m).length) && !isBut b m) = true then allOf n m else allOf o m := by
  unfold mergeOf
  rw [allOf_append]
  have key : allOf (o.filter fun x => !decide (0 < (allOf (takenOf n b) x.f0).length)) m = if 0 < (allOf (takenOf n b) m).length then [] else allOf o m := by
    by_cases h : 0 < (allOf (takenOf n b) m).length
    · rw [if_pos h, allOf_nil_iff]
      intro x hx
      have h1 := (List.mem_filter.1 hx).2
      refine Bool.eq_false_iff.2 fun q => ?_
      rw [allOf_congr (takenOf n b) ((same_iff _ _).1 q), decide_eq_true h] at h1
      cases h1
    · rw [if_neg h]
      unfold allOf
      rw [List.filter_filter]
      congr 1
      apply List.filter_congr
      intro x hx
      cases hs : Own.same x.f0 m with
      | false => rfl
      | true =>
        have h1 : ¬ 0 < (allOf (takenOf n b) x.f0).length := by rw [allOf_congr (takenOf n b) ((same_iff _ _).1 hs)]; exact h
        unfold allOf at h1
        rw [decide_eq_false h1]; rfl
  rw [key, allOf_taken]
  by_cases hb : isBut b m = true
  · rw [if_pos hb, if_neg (by simp), if_neg (by rw [hb]; simp), List.append_nil]
  · rw [if_neg hb]
    by_cases h0 : 0 < (allOf n m).length
    · rw [if_pos h0, if_pos (by rw [decide_eq_true h0, Bool.eq_false_iff.2 hb]; rfl), List.nil_append]
    · have e : allOf n m = [] := List.eq_nil_of_length_eq_zero (by omega)
      rw [if_neg h0, if_neg (by rw [decide_eq_false h0]; simp), e, List.append_nil]
def setOf (l : List S32) (n v : ByteArray) : List S32 := (l.filter fun x => !Own.same x.f0 n) ++ [⟨n, v⟩]
theorem Drop_ok {l : List S32} (hl : l.length ≤ 80) (ho : okL l) {n : ByteArray} (hn : n.size ≤ 9223372036854775807) : head_Drop.f l n = some (l.filter fun x => !Own.same x.f0 n) := by
  unfold head_Drop.f; rw [if_pos ⟨by omega, okS_of hn, ho.all⟩]
theorem Set_ok {l : List S32} (hl : l.length ≤ 80) (ho : okL l) {n : ByteArray} (hn : n.size ≤ 9223372036854775807) (v : ByteArray) : head_Set.f l n v = some (setOf l n v) := by
  unfold head_Set.f
  rw [Drop_ok hl ho hn, Option.bind_some, if_pos (by have := List.length_filter_le (fun x => !Own.same x.f0 n) l; omega)]; rfl
theorem allOf_drop (l : List S32) (n : ByteArray) : allOf (l.filter fun x => !Own.same x.f0 n) n = [] := by
  rw [allOf_nil_iff]
  intro x hx
  simpa using (List.mem_filter.1 hx).2
theorem allOf_set (l : List S32) (n v : ByteArray) : allOf (setOf l n v) n = [v] := by
  unfold setOf
  rw [allOf_append, allOf_drop, List.nil_append]
  unfold allOf
  rw [List.filter_cons, if_pos (same_self n)]; rfl
theorem allOf_other (l : List S32) (n v o : ByteArray) (h : Own.low o ≠ Own.low n) : allOf (setOf l n v) o = allOf l o := by
  unfold setOf
  rw [allOf_append]
  have e1 : allOf [(⟨n, v⟩ : S32)] o = [] := by
    rw [allOf_nil_iff]
    intro x hx
    rw [List.mem_singleton.1 hx]
    exact Bool.eq_false_iff.2 fun q => h ((same_iff _ _).1 q).symm
  rw [e1, List.append_nil]
  unfold allOf
  rw [List.filter_filter]
  congr 1
  apply List.filter_congr
  intro x hx
  cases hs : Own.same x.f0 o with
  | false => rfl
  | true =>
    have : Own.same x.f0 n = false := Bool.eq_false_iff.2 fun q => h (by rw [← (same_iff _ _).1 hs, (same_iff _ _).1 q])
    rw [this]; rfl
theorem One_ok {l : List S32} (hl : l.length < 4398046511104) (ho : okL l) {n : ByteArray} (hn : n.size ≤ 9223372036854775807) {j : ByteArray} (hj : strings_Join.f (allOf l n) (⟨#[44, 32]⟩ : ByteArray) = some j) :
    Ev (fun k => head_One.f k l n) (j, decide (((allOf l n).length : Int) > 0)) := by
  unfold head_One.f
  exact Ev.bind (All_ok hl ho hn) (Ev.bnd hj (Ev.now _))
def decL (n : Nat) : List UInt8 := if h : n < 10 then [UInt8.ofNat (48 + n)] else decL (n / 10) ++ [UInt8.ofNat (48 + n % 10)]
termination_by n
decreasing_by omega
theorem decL_small {n : Nat} (h : n < 10) : decL n = [UInt8.ofNat (48 + n)] := by unfold decL; rw [dif_pos h]
theorem decL_big {n : Nat} (h : ¬ n < 10) : decL n = decL (n / 10) ++ [UInt8.ofNat (48 + n % 10)] := by rw [decL, dif_neg h]
theorem decL_len : ∀ (b n : Nat), n < 10 ^ (b + 1) → (decL n).length ≤ b + 1
  | 0, n, h => by rw [decL_small (by simpa using h)]; simp
  | b + 1, n, h => by
    by_cases h10 : n < 10
    · rw [decL_small h10]; simp
    · rw [decL_big h10, List.length_append, List.length_singleton]
      have := decL_len b (n / 10) (by rw [Nat.pow_succ] at h; omega)
      omega
theorem decL_digits : ∀ (b n : Nat), n < b → ∀ c ∈ decL n, 48 ≤ c.toNat ∧ c.toNat ≤ 57
  | 0, n, h => by omega
  | b + 1, n, h => by
    intro c hc
    by_cases h10 : n < 10
    · rw [decL_small h10] at hc
      rw [List.mem_singleton.1 hc, UInt8.toNat_ofNat_of_lt' (by show 48 + n < 256; omega)]; omega
    · rw [decL_big h10] at hc
      rcases List.mem_append.1 hc with m | m
      · exact decL_digits b (n / 10) (by omega) c m
      · rw [List.mem_singleton.1 m, UInt8.toNat_ofNat_of_lt' (by show 48 + n % 10 < 256; omega)]; omega
theorem decL_ne (n : Nat) : decL n ≠ [] := by
  by_cases h10 : n < 10
  · rw [decL_small h10]; simp
  · rw [decL_big h10]; simp
theorem num_one {x : Int} {n : Nat} (h : x = (n : Int)) (hn : n < 256) : strOfNums [(wrap64 x) % 256] = mk [UInt8.ofNat n] := by
  have : (wrap64 x) % 256 = (n : Int) := by rw [wrap_id (by omega) (by omega)]; omega
  rw [this]; rfl
theorem Dec_ok : ∀ (b n : Nat), n < b → n ≤ 9223372036854775807 → Ev (fun k => sprref_Dec.f k (n : Int)) (mk (decL n))
  | 0, n, h, _ => by omega
  | b + 1, n, h, hm => by
    refine Ev.step (fun _ => sprref_Dec.f.eq_2 ..) (Ev.neg (by omega) ?_)
    by_cases h10 : n < 10
    · refine Ev.pos (by omega) ?_
      rw [num_one (n := 48 + n) (by omega) (by omega), decL_small h10]
      exact Ev.now _
    · refine Ev.neg (by omega) ?_
      have e1 : Int.tdiv (n : Int) 10 = ((n / 10 : Nat) : Int) := rfl
      have e2 : Int.tmod (n : Int) 10 = ((n % 10 : Nat) : Int) := rfl
      rw [e1, e2, wrap_id (x := ((n / 10 : Nat) : Int)) (by omega) (by omega)]
      have hl := decL_len 18 (n / 10) (by omega)
      refine Ev.bind (Dec_ok b (n / 10) (by omega) (by omega)) (Ev.bnd rfl ?_)
      rw [num_one (n := 48 + n % 10) (by omega) (by omega)]
      refine Ev.pos (by rw [size_B, size_B, B_mk, B_mk]; simp; omega) ?_
      have e : mk (decL (n / 10)) ++ mk [UInt8.ofNat (48 + n % 10)] = mk (decL n) := by
        apply B_inj
        rw [B_append, B_mk, B_mk, B_mk, ← decL_big h10]
      rw [e]
      exact Ev.now _
def nmAge : ByteArray := ⟨#[65, 103, 101]⟩
def nmage : ByteArray := ⟨#[97, 103, 101]⟩
def keptL : List ByteArray := use_kept.f.getD []
theorem kept_ok : use_kept.f = some keptL := rfl
theorem kept_size : ∀ s ∈ keptL, s.size ≤ 9223372036854775807 := by decide +kernel
theorem Renew_ok {o n : List S32} (ho : okL o) (hn : okL n) (hl : o.length + n.length ≤ 1000000) : use_Renew.f o n = some (mergeOf o n keptL) := by
  unfold use_Renew.f
  rw [kept_ok, Option.bind_some, Merge_ok ho hn hl kept_size]; rfl
theorem Has_loop (l : List ByteArray) (s : ByteArray) (hl : l.length ≤ 1000000) : ∀ (t : List ByteArray) (i : Nat), l.drop i = t → Ev (fun k => sprref_Has.l0 k l s (i : Int)) (t.any fun x => decide (x = s))
  | [], i, ht => by
    have := drop_nil ht
    exact Ev.step (fun _ => sprref_Has.l0.eq_2 ..) (Ev.neg (by omega) (Ev.now _))
  | x :: t, i, ht => by
    obtain ⟨a1, a2, a3⟩ := drop_cons ht
    refine Ev.step (fun _ => sprref_Has.l0.eq_2 ..) (Ev.pos (by omega) (Ev.pos (by omega) ?_))
    rw [rdOf_of a2, toList_B, toList_B]
    by_cases h : x = s
    · refine Ev.pos (by rw [h]) ?_
      rw [List.any_cons, decide_eq_true h]; exact Ev.now _
    · refine Ev.neg (fun e => h (B_inj e)) ?_
      rw [wrap_id (x := (i : Int) + 1) (by omega) (by omega), cast_succ, List.any_cons, decide_eq_false h, Bool.false_or]
      exact Has_loop l s hl t (i + 1) a3
theorem any_low (m : ByteArray) : ∀ l : List ByteArray, ((l.map Own.low).any fun x => decide (x = Own.low m)) = isBut l m
  | [] => rfl
  | s :: t => by
    have h := any_low m t
    unfold isBut at h ⊢
    rw [List.map_cons, List.any_cons, List.any_cons, h]
    congr 1
    rw [Bool.eq_iff_iff, decide_eq_true_iff, same_iff]
theorem Has_but (L : List ByteArray) (hL : L = keptL.map Own.low) (m : ByteArray) : Ev (fun k => sprref_Has.f k L (Own.low m)) (isBut keptL m) := by
  subst hL
  have h := Has_loop (keptL.map Own.low) (Own.low m) (by rw [List.length_map]; decide) _ 0 rfl
  rw [List.drop_zero, any_low] at h
  exact h
theorem decDigits_eq : ∀ (b n : Nat), n < b → Lib.decDigits n = decL n
  | 0, n, h => by omega
  | b + 1, n, h => by
    by_cases h10 : n < 10
    · rw [decL_small h10, Lib.decDigits, dif_pos h10]
    · rw [decL_big h10, Lib.decDigits, dif_neg h10, decDigits_eq b (n / 10) (by omega)]
theorem Itoa_ok (n : Nat) (h : n ≤ 9223372036854775807) : strconv_Itoa.f (n : Int) = some (mk (decL n)) := by
  unfold strconv_Itoa.f Lib.itoa
  rw [if_pos (by omega), if_neg (by omega), Int.toNat_natCast, decDigits_eq (n + 1) n (by omega)]
  rfl
theorem first21_ok : Ev (fun k => sprlaw21_first.f k) true := Ev.now _
theorem clip_nat (x : Int) : ∃ c : Nat, bits_Clip.f x = some (c : Int) ∧ c ≤ 2147483648 := by
  refine ⟨(mn (mx x 0) 2147483648).toNat, ?_, ?_⟩
  · show some (mn (mx x 0) 2147483648) = _
    rw [Int.toNat_of_nonneg (by unfold mn mx; (repeat' split) <;> omega)]
  · have : mn (mx x 0) 2147483648 ≤ 2147483648 := by unfold mn; split <;> omega
    omega
theorem renews_j2 (o n : List S32) (m : ByteArray) (a : Int) (ho : okL o) (hn : okL n) (hol : o.length ≤ 80) (hnl : n.length ≤ 80) (hm : m.size ≤ 9223372036854775807) : Ev (fun k => sprlaw21_UseRenews.j2 k o n m a (mergeOf o n keptL) (allOf (mergeOf o n keptL) m)) true := by
  obtain ⟨c, hc, hcl⟩ := clip_nat a
  have hml := merge_len o n keptL
  have hmo := merge_okL ho hn keptL
  have hvs : (mk (decL c)).size ≤ 1000 := by rw [size_B, B_mk]; have := decL_len 18 c (by omega); omega
  have hT : use_Tell.f o a = some (setOf o nmAge (mk (decL c))) := by
    unfold use_Tell.f
    rw [hc, Option.bind_some, Itoa_ok c (by omega), Option.bind_some]
    have := Set_ok hol ho (n := nmAge) (by decide) (mk (decL c))
    rw [show head_Set.f o (⟨#[65, 103, 101]⟩ : ByteArray) (mk (decL c)) = _ from this]; rfl
  have hD := Dec_ok (c + 1) c (by omega) (by omega)
  generalize mk (decL c) = v at hT hvs hD
  have hset : okL (setOf o nmAge v) := (ho.filter _).append (fun x hx => by rw [List.mem_singleton.1 hx]; exact ⟨by show 3 ≤ _; omega, by show v.size ≤ _; omega⟩)
  have hsl : (setOf o nmAge v).length ≤ 81 := by
    unfold setOf
    have := List.length_filter_le (fun x => !Own.same x.f0 nmAge) o
    rw [List.length_append, List.length_singleton]; omega
  have hal : allOf (setOf o nmAge v) nmage = [v] := by
    rw [allOf_congr (setOf o nmAge v) (show Own.low nmage = Own.low nmAge by decide +kernel)]
    exact allOf_set o nmAge v
  have hj : strings_Join.f (allOf (setOf o nmAge v) nmage) (⟨#[44, 32]⟩ : ByteArray) = some v := by
    rw [hal]
    unfold strings_Join.f
    rw [List.map_cons, List.map_nil, Lib.join_one, if_pos ⟨by simp, by show (B v).length ≤ _; rw [← size_B]; omega⟩]
  have hO := One_ok (by omega) hset (n := nmage) (by decide) hj
  rw [hal] at hO
  have hTx := Texts_ok (allOf (mergeOf o n keptL) m) (allOf (mergeOf o n keptL) m) (by have := allOf_len (mergeOf o n keptL) m; omega)
  rw [decide_eq_true rfl] at hTx
  have hR2 := Renew_ok hmo hn (by omega)
  rw [merge_again] at hR2
  have hF := Fields_ok (mergeOf o n keptL) (mergeOf o n keptL) (by omega)
  rw [decide_eq_true rfl] at hF
  refine Ev.step (fun _ => sprlaw21_UseRenews.j2.eq_2 ..) (Ev.bnd hT (Ev.bind hO (Ev.bind first21_ok (Ev.pos rfl (Ev.bind (All_ok (by omega) hmo hm) (Ev.bind hTx (Ev.pos rfl (Ev.bnd hR2 (Ev.bind hF (Ev.pos rfl (Ev.pos (by simp) (Ev.bnd hc (Ev.bind hD (Ev.pos rfl (Ev.bnd (Lower_ok hm) ?_)))))))))))))))
  by_cases e : (Own.low m).toList = ([97, 103, 101] : List UInt8)
  · exact Ev.pos e (Ev.now _)
  · have hne : Own.low m ≠ Own.low nmAge := fun q => e (by rw [q]; decide +kernel)
    have hA := All_ok (l := setOf o nmAge v) (by omega) hset hm
    rw [allOf_other o nmAge v m hne] at hA
    have hT2 := Texts_ok (allOf o m) (allOf o m) (by have := allOf_len o m; omega)
    rw [decide_eq_true rfl] at hT2
    exact Ev.neg e (Ev.bind hA (Ev.bind (All_ok (by omega) ho hm) (Ev.bind hT2 (Ev.now _))))
theorem UseRenews (o n : List S32) (m : ByteArray) (a : Int) (g0 : o.length ≤ maxLen ∧ ∀ x ∈ o, x.f0.size ≤ maxLen ∧ x.f1.size ≤ maxLen) (g1 : n.length ≤ maxLen ∧ ∀ x ∈ n, x.f0.size ≤ maxLen ∧ x.f1.size ≤ maxLen) (g2 : m.size ≤ maxLen) (g3 : (Lit.int .i64 a).wf = true) : ∃ k, sprlaw21_UseRenews.f k o n m a = some true := by
  have ho : okL o := g0.2
  have hn : okL n := g1.2
  have big : Ev (fun k => sprlaw21_UseRenews.j0 k o n m a true) true := Ev.step (fun _ => sprlaw21_UseRenews.j0.eq_2 ..) (Ev.pos rfl (Ev.bind first21_ok (Ev.now _)))
  refine Ev.rounds ?_
  unfold sprlaw21_UseRenews.f
  refine Ev.bind first21_ok (Ev.pos rfl ?_)
  obtain ⟨b0, hb0, hf0⟩ := Few_ok o
  obtain ⟨b1, hb1, hf1⟩ := Few_ok n
  refine Ev.bind hb0 ?_
  cases b0 with
  | false => exact Ev.neg (by simp) big
  | true =>
  refine Ev.pos rfl (Ev.bind hb1 ?_)
  cases b1 with
  | false => exact Ev.neg (by simp) big
  | true =>
  refine Ev.pos rfl ?_
  have l0 := hf0 rfl
  have l1 := hf1 rfl
  by_cases g : (m.size : Int) > 400
  · rw [decide_eq_true g]; exact big
  rw [decide_eq_false g]
  have hm : m.size ≤ 9223372036854775807 := by omega
  have hj2 := renews_j2 o n m a ho hn l0 l1 hm
  have hE := allOf_merge o n keptL m
  refine Ev.step (fun _ => sprlaw21_UseRenews.j0.eq_2 ..) (Ev.neg (by simp) (Ev.bnd (Renew_ok ho hn (by omega)) (Ev.bind (All_ok (by omega) ho hm) (Ev.bind (All_ok (by omega) hn hm) ?_))))
  have old : (decide (0 < (allOf n m).length) && !isBut keptL m) = false → Ev (fun k => sprlaw21_UseRenews.j1 k o n m a (mergeOf o n keptL) (allOf o m) false) true := fun q => by
    rw [q, if_neg (by simp)] at hE
    rw [hE] at hj2
    exact Ev.step (fun _ => sprlaw21_UseRenews.j1.eq_2 ..) (Ev.neg (by simp) hj2)
  by_cases h0 : ((allOf n m).length : Int) > 0
  · refine Ev.pos h0 (Ev.bnd (Lower_ok hm) (Ev.bind (Has_but _ (by kernel_rfl) m) ?_))
    have d0 : decide (0 < (allOf n m).length) = true := decide_eq_true (by omega)
    cases hb : isBut keptL m with
    | true => exact old (by rw [hb]; simp)
    | false =>
      rw [hb, d0, if_pos (by rfl)] at hE
      rw [hE] at hj2
      exact Ev.step (fun _ => sprlaw21_UseRenews.j1.eq_2 ..) (Ev.pos rfl (Ev.bind (All_ok (by omega) hn hm) hj2))
  · refine Ev.neg h0 (old ?_)
    rw [decide_eq_false (by omega)]; rfl

end Go.Proofs.YtdikhinmlpihdaaDoor.Pure
