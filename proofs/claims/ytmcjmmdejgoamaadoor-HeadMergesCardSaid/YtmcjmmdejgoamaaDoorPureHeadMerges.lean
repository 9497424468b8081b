/-
The law HeadMerges: merged again with the same it is the same; a name of the new lines that counts has just its new values, others their old ones. No conditions beside those of the statement.
-/
import Derived.Test.YtmcjmmdejgoamaaDoorQ7
set_option linter.unusedVariables false
set_option linter.unusedSimpArgs false
namespace Go.Proofs.YtmcjmmdejgoamaaDoor.Pure
open Go.RowKit Go.Proofs.YtmcjmmdejgoamaaDoor.Q Go.Proofs.YtmcjmmdejgoamaaDoorW.PrintWords Go.Proofs.YtmcjmmdejgoamaaDoorW.PrintLast
theorem wrap_id {x : Int} (h0 : -9223372036854775808 ≤ x) (h1 : x ≤ 9223372036854775807) : wrap64 x = x := by unfold wrap64; omega
theorem Ev.succ {α : Type} {g : Nat → Option α} {r : α} (h : Ev (fun k => g (k + 1)) r) : Ev g r := Ev.step (fun _ => rfl) h
theorem Ev.konst {α : Type} {o : Option α} {r : α} (h : o = some r) : Ev (fun _ => o) r := ⟨0, fun _ _ => h⟩
theorem Ev.at {α : Type} {g : Nat → Option α} {r : α} (K : Nat) (h : ∀ k, g (k + K) = some r) : Ev g r := ⟨K, fun n hn => by
  obtain ⟨m, rfl⟩ : ∃ m, n = m + K := ⟨n - K, by omega⟩
  exact h m⟩
theorem drop_cons {α : Type} {l : List α} {i : Nat} {c : α} {t : List α} (h : l.drop i = c :: t) : i < l.length ∧ l[i]? = some c ∧ l.drop (i + 1) = t := by
  have h1 : (l.drop i)[0]? = some c := by rw [h]; rfl
  rw [List.getElem?_drop] at h1
  simp only [Nat.add_zero] at h1
  refine ⟨(List.getElem?_eq_some_iff.1 h1).1, h1, ?_⟩
  rw [← List.drop_drop, h]; rfl
theorem drop_nil {α : Type} {l : List α} {i : Nat} (h : l.drop i = []) : l.length ≤ i := by
  simpa using h
theorem rd_of {l : List Int} {i : Nat} {c : Int} (h : l[i]? = some c) : rd l (i : Int) = c := by
  unfold rd; rw [Int.toNat_natCast, List.getD_eq_getElem?_getD, h]; rfl
theorem rdOf_of {α : Type} {d : α} {l : List α} {i : Nat} {c : α} (h : l[i]? = some c) : rdOf d l (i : Int) = c := by
  unfold rdOf; rw [Int.toNat_natCast, List.getD_eq_getElem?_getD, h]; rfl
theorem cast_succ (i : Nat) : ((i : Int) + 1) = ((i + 1 : Nat) : Int) := by omega
theorem Ev.pos {α : Type} {c : Prop} [Decidable c] {A B : Nat → Option α} {r : α} (h : c) (k : Ev A r) : Ev (fun n => if c then A n else B n) r := Ev.congr (fun _ => if_pos h) k
theorem Ev.neg {α : Type} {c : Prop} [Decidable c] {A B : Nat → Option α} {r : α} (h : ¬ c) (k : Ev B r) : Ev (fun n => if c then A n else B n) r := Ev.congr (fun _ => if_neg h) k
theorem Ev.bnd {α β : Type} {o : Option β} {a : β} {f : Nat → β → Option α} {r : α} (h : o = some a) (k : Ev (fun n => f n a) r) : Ev (fun n => o.bind (f n)) r := by
  subst h; exact k
/-- A text's bytes. -/
def B (s : ByteArray) : List UInt8 := s.data.toList
def mk (l : List UInt8) : ByteArray := ⟨l.toArray⟩
theorem B_mk (l : List UInt8) : B (mk l) = l := rfl
theorem mk_B (s : ByteArray) : mk (B s) = s := rfl
theorem B_inj {s t : ByteArray} (h : B s = B t) : s = t := by rw [← mk_B s, ← mk_B t, h]
theorem toList_B (s : ByteArray) : s.toList = B s := Lib.toList_data s
theorem size_B (s : ByteArray) : s.size = (B s).length := Lib.size_eq s
theorem B_extract (s : ByteArray) (a b : Nat) : B (s.extract a b) = ((B s).drop a).take (b - a) := Lib.extract_data s a b
theorem B_append (s t : ByteArray) : B (s ++ t) = B s ++ B t := by
  unfold B
  rw [ByteArray.data_append, Array.toList_append]
theorem B_to (s : ByteArray) (n : Nat) : B (s.extract 0 n) = (B s).take n := by rw [B_extract, List.drop_zero, Nat.sub_zero]
theorem B_from (s : ByteArray) (n : Nat) : B (s.extract n s.size) = (B s).drop n := by
  rw [B_extract, size_B]
  exact List.take_of_length_le (by rw [List.length_drop]; omega)
theorem bt_of {s : ByteArray} {i : Nat} {c : UInt8} (h : (B s)[i]? = some c) : bt s (i : Int) = (c.toNat : Int) := by
  unfold bt
  have hi : i < s.size := by rw [size_B]; exact (List.getElem?_eq_some_iff.1 h).1
  rw [Int.toNat_natCast, dif_pos hi]
  have : (s[i]'hi) = c := by
    have h1 : (B s)[i]? = some (s[i]'hi) := by
      unfold B
      rw [Array.getElem?_toList]
      exact Array.getElem?_eq_getElem _
    rw [h1] at h
    exact Option.some.inj h
  rw [this]
/-- The byte that a suffix begins with. -/
theorem bt_drop {s : ByteArray} {i : Nat} {c : UInt8} {t : List UInt8} (h : (B s).drop i = c :: t) : bt s (i : Int) = (c.toNat : Int) ∧ i < s.size ∧ (B s).drop (i + 1) = t := by
  obtain ⟨h1, h2, h3⟩ := drop_cons h
  exact ⟨bt_of h2, by rw [size_B]; exact h1, h3⟩
theorem end_drop {s : ByteArray} {i : Nat} (h : (B s).drop i = []) : s.size ≤ i := by rw [size_B]; exact drop_nil h
theorem u8_eq (c : UInt8) (n : Nat) (h : n < 256) : ((c.toNat : Int) = (n : Int)) ↔ c = UInt8.ofNat n := by
  constructor
  · intro e
    have e' : c.toNat = n := by omega
    rw [← e']; exact (UInt8.ofNat_toNat).symm
  · intro e
    rw [e, UInt8.toNat_ofNat']
    have : n % 2 ^ 8 = n := Nat.mod_eq_of_lt h
    omega
theorem u8_lt (c : UInt8) : (c.toNat : Int) < 256 ∧ 0 ≤ (c.toNat : Int) := by
  have := UInt8.toNat_lt c
  omega
/-! names in small letters -/
theorem lowb_low (c : UInt8) : Own.lowb (Own.lowb c) = Own.lowb c := by
  by_cases h : 65 ≤ c.toNat ∧ c.toNat ≤ 90
  · have e : Own.lowb c = c + 32 := by unfold Own.lowb; rw [if_pos h]
    have h2 : (c + 32).toNat = c.toNat + 32 := by
      rw [UInt8.toNat_add]
      show (c.toNat + 32) % 256 = _
      omega
    rw [e]
    unfold Own.lowb
    rw [if_neg (by omega)]
  · have e : Own.lowb c = c := by unfold Own.lowb; rw [if_neg h]
    rw [e, e]
theorem low_low (s : ByteArray) : Own.low (Own.low s) = Own.low s := by
  apply B_inj
  show ((s.data.toList.map Own.lowb).map Own.lowb) = s.data.toList.map Own.lowb
  rw [List.map_map]
  congr 1
  funext c
  exact lowb_low c
theorem low_size (s : ByteArray) : (Own.low s).size = s.size := by
  rw [size_B, size_B s]
  show (s.data.toList.map Own.lowb).length = _
  rw [List.length_map]; rfl
theorem same_iff (a b : ByteArray) : Own.same a b = true ↔ Own.low a = Own.low b := by
  unfold Own.same
  rw [toList_B, toList_B, beq_iff_eq]
  exact ⟨B_inj, fun h => by rw [h]⟩
theorem same_congr {a a' b b' : ByteArray} (h1 : Own.low a = Own.low a') (h2 : Own.low b = Own.low b') : Own.same a b = Own.same a' b' := by
  rw [Bool.eq_iff_iff, same_iff, same_iff, h1, h2]
theorem same_low (a b : ByteArray) : Own.same a (Own.low b) = Own.same a b := same_congr rfl (low_low b)
theorem same_self (a : ByteArray) : Own.same a a = true := (same_iff a a).2 rfl
theorem okS_of {s : ByteArray} (h : s.size ≤ 9223372036854775807) : Own.okS s = true := decide_eq_true h
instance : DecidableEq S45 := fun a b => decidable_of_iff (a.f0 = b.f0 ∧ a.f1 = b.f1) ⟨fun h => by cases a; cases b; cases h.1; cases h.2; rfl, fun h => by rw [h]; exact ⟨rfl, rfl⟩⟩
/-- Lines that the form lets in. -/
def okL (l : List S45) : Prop := ∀ x ∈ l, x.f0.size ≤ 9223372036854775807 ∧ x.f1.size ≤ 9223372036854775807
theorem okL.all {l : List S45} (h : okL l) : (l.all fun x => Own.okS x.f0) = true := List.all_eq_true.2 fun x hx => okS_of (h x hx).1
theorem okL.filter {l : List S45} (h : okL l) (p : S45 → Bool) : okL (l.filter p) := fun x hx => h x (List.mem_filter.1 hx).1
theorem okL.append {l m : List S45} (h : okL l) (k : okL m) : okL (l ++ m) := fun x hx => (List.mem_append.1 hx).elim (h x) (k x)
theorem allOf_append (l m : List S45) (n : ByteArray) : allOf (l ++ m) n = allOf l n ++ allOf m n := by
  unfold allOf; rw [List.filter_append, List.map_append]
theorem allOf_nil_iff (l : List S45) (n : ByteArray) : allOf l n = [] ↔ ∀ x ∈ l, Own.same x.f0 n = false := by
  unfold allOf
  rw [List.map_eq_nil_iff, List.filter_eq_nil_iff]
  exact ⟨fun h x hx => by simpa using h x hx, fun h x hx => by simpa using h x hx⟩
theorem allOf_congr (l : List S45) {a b : ByteArray} (h : Own.low a = Own.low b) : allOf l a = allOf l b := by
  unfold allOf
  congr 2
  funext x
  exact same_congr rfl h
theorem allOf_len (l : List S45) (n : ByteArray) : (allOf l n).length ≤ l.length := by
  unfold allOf; rw [List.length_map]; exact List.length_filter_le _ _
theorem Texts_loop (a b : List ByteArray) (hl : a.length = b.length) (hb : a.length ≤ 1000000000) : ∀ (s t : List ByteArray) (i : Nat), a.drop i = s → b.drop i = t → Ev (fun k => sprref_Texts.l0 k a b i) (decide (s = t))
  | [], t, i, hs, ht => by
    have h1 := drop_nil hs
    have h2 : t = [] := by rw [← ht]; exact List.drop_eq_nil_of_le (by omega)
    subst h2
    exact Ev.step (fun _ => sprref_Texts.l0.eq_2 ..) (Ev.neg (by omega) (Ev.now _))
  | c :: s, [], i, hs, ht => by
    have h1 := drop_nil ht
    have h2 := drop_cons hs
    omega
  | c :: s, d :: t, i, hs, ht => by
    obtain ⟨h1, h2, h3⟩ := drop_cons hs
    obtain ⟨g1, g2, g3⟩ := drop_cons ht
    refine Ev.step (fun _ => sprref_Texts.l0.eq_2 ..) (Ev.pos (by omega) (Ev.pos (by omega) (Ev.pos (by omega) ?_)))
    rw [rdOf_of h2, rdOf_of g2, toList_B, toList_B]
    by_cases e : c = d
    · refine Ev.pos (by rw [e]) ?_
      rw [wrap_id (by omega) (by omega), cast_succ]
      have := Texts_loop a b hl hb s t (i + 1) h3 g3
      simpa [e] using this
    · refine Ev.neg (fun h => e (B_inj h)) ?_
      exact Ev.konst (by simp [e])
theorem Texts_ok (a b : List ByteArray) (hb : a.length ≤ 1000000000) : Ev (fun k => sprref_Texts.f k a b) (decide (a = b)) := by
  unfold sprref_Texts.f
  by_cases h : a.length = b.length
  · exact Ev.pos (by omega) (Texts_loop a b h hb a b 0 rfl rfl)
  · refine Ev.neg (by omega) (Ev.konst ?_)
    have : a ≠ b := fun e => h (by rw [e])
    simp [this]
theorem Lower_ok {s : ByteArray} (h : s.size ≤ 9223372036854775807) : head_Lower.f s = some (Own.low s) := by
  unfold head_Lower.f; rw [if_pos h]
theorem All_ok {l : List S45} (hl : l.length < 4398046511104) (ho : okL l) {n : ByteArray} (hn : n.size ≤ 9223372036854775807) : Ev (fun k => head_All.f k l n) (allOf l n) :=
  Ev.of (fun k => head_All.mono _ _ k) (head_All_is l n hl (okS_of hn) (fun x hx => okS_of (ho x hx).1))
theorem Fields_loop (a b : List S45) (hl : a.length = b.length) (hb : a.length ≤ 1000000000) : ∀ (s t : List S45) (i : Nat), a.drop i = s → b.drop i = t → Ev (fun k => sprref_Fields.l0 k a b (i : Int)) (decide (s = t))
  | [], t, i, h1, h2 => by
    have := drop_nil h1
    have e : t = [] := by rw [← h2]; exact List.drop_eq_nil_of_le (by omega)
    rw [e]
    exact Ev.step (fun _ => sprref_Fields.l0.eq_2 ..) (Ev.neg (by omega) (Ev.now _))
  | x :: s, [], i, h1, h2 => by
    have := drop_nil h2
    have := (drop_cons h1).1
    omega
  | x :: s, y :: t, i, h1, h2 => by
    obtain ⟨a1, a2, a3⟩ := drop_cons h1
    obtain ⟨b1, b2, b3⟩ := drop_cons h2
    have r1 : rd_T45 a (i : Int) = x := by unfold rd_T45; rw [Int.toNat_natCast, List.getD_eq_getElem?_getD, a2]; rfl
    have r2 : rd_T45 b (i : Int) = y := by unfold rd_T45; rw [Int.toNat_natCast, List.getD_eq_getElem?_getD, b2]; rfl
    refine Ev.step (fun _ => sprref_Fields.l0.eq_2 ..) (Ev.pos (by omega) (Ev.pos (by omega) (Ev.pos (by omega) ?_)))
    rw [r1, r2, toList_B, toList_B, toList_B, toList_B]
    by_cases e0 : x.f0 = y.f0
    · refine Ev.pos (by rw [e0]) ?_
      by_cases e1 : x.f1 = y.f1
      · refine Ev.pos (by rw [e1]) ?_
        rw [wrap_id (by omega) (by omega), cast_succ]
        have e : x = y := by cases x; cases y; cases e0; cases e1; rfl
        have ih := Fields_loop a b hl hb s t (i + 1) a3 b3
        have e2 : decide (x :: s = y :: t) = decide (s = t) := by rw [e]; simp
        rw [e2]; exact ih
      · refine Ev.neg (fun h => e1 (B_inj h)) ?_
        rw [decide_eq_false (fun h => e1 (by rw [(List.cons.inj h).1]))]; exact Ev.now _
    · refine Ev.neg (fun h => e0 (B_inj h)) ?_
      rw [decide_eq_false (fun h => e0 (by rw [(List.cons.inj h).1]))]; exact Ev.now _
theorem Fields_ok (a b : List S45) (hb : a.length ≤ 1000000000) : Ev (fun k => sprref_Fields.f k a b) (decide (a = b)) := by
  unfold sprref_Fields.f
  by_cases h : a.length = b.length
  · exact Ev.pos (by omega) (Fields_loop a b h hb a b 0 rfl rfl)
  · refine Ev.neg (by omega) ?_
    rw [decide_eq_false (fun e => h (by rw [e]))]; exact Ev.now _
/-- Few lines: at most 80. -/
theorem Few_loop (l : List S45) : ∀ (t : List S45) (i : Nat) (n : Int), l.drop i = t → 0 ≤ n → n ≤ 80000 → i ≤ 80 → ∃ b, Ev (fun k => sprlaw13_Few.l0 k l n (i : Int)) b ∧ (b = true → l.length ≤ 80)
  | [], i, n, h, h0, h1, hi => by
    have := drop_nil h
    by_cases hl : l.length ≤ 80
    · exact ⟨_, Ev.step (fun _ => sprlaw13_Few.l0.eq_2 ..) (Ev.neg (by omega) (Ev.pos (by omega) (Ev.now _))), fun _ => hl⟩
    · exact ⟨false, Ev.step (fun _ => sprlaw13_Few.l0.eq_2 ..) (Ev.neg (by omega) (Ev.neg (by omega) (Ev.now _))), fun h => by cases h⟩
  | x :: t, i, n, h, h0, h1, hi => by
    obtain ⟨a1, a2, a3⟩ := drop_cons h
    by_cases h80 : i < 80
    · have mn2 : ∀ a b : Int, mn a b ≤ b ∧ (0 ≤ a → 0 ≤ b → 0 ≤ mn a b) := by intro a b; unfold mn; split <;> omega
      obtain ⟨b, hb, hf⟩ := Few_loop l t (i + 1) (mn (wrap64 ((wrap64 (n + (mn (((rd_T45 l (i : Int)).f0).size : Int) 20000))) + (mn (((rd_T45 l (i : Int)).f1).size : Int) 20000))) 80000) a3 (by
        have q1 := mn2 (((rd_T45 l (i : Int)).f0).size : Int) 20000
        have q2 := mn2 (((rd_T45 l (i : Int)).f1).size : Int) 20000
        have q3 := q1.2 (by omega) (by omega)
        have q4 := q2.2 (by omega) (by omega)
        rw [wrap_id (x := n + _) (by omega) (by omega), wrap_id (by omega) (by omega)]
        exact (mn2 _ _).2 (by omega) (by omega)) ((mn2 _ _).1) (by omega)
      refine ⟨b, Ev.step (fun _ => sprlaw13_Few.l0.eq_2 ..) (Ev.pos (by omega) (Ev.pos (by omega) (Ev.pos (by omega) ?_))), hf⟩
      rw [wrap_id (x := (i : Int) + 1) (by omega) (by omega), cast_succ]
      exact hb
    · refine ⟨false, Ev.step (fun _ => sprlaw13_Few.l0.eq_2 ..) (Ev.pos (by omega) (Ev.neg (by omega) (Ev.neg (by omega) (Ev.now _)))), fun h => by cases h⟩
theorem Few_ok (l : List S45) : ∃ b, Ev (fun k => sprlaw13_Few.f k l) b ∧ (b = true → l.length ≤ 80) := Few_loop l l 0 0 rfl (by omega) (by omega) (by omega)
theorem first_ok : Ev (fun k => sprlaw13_first.f k) true := Ev.of (fun k => sprlaw13_first.mono k) (k := 60) (by kernel_rfl)
theorem Merge_ok {o n : List S45} (ho : okL o) (hn : okL n) (hl : o.length + n.length ≤ 1000000) {b : List ByteArray} (hb : ∀ s ∈ b, s.size ≤ 9223372036854775807) : head_Merge.f o n b = some (mergeOf o n b) := by
  unfold head_Merge.f
  rw [if_pos ⟨by omega, ho.all, hn.all, List.all_eq_true.2 fun s hs => okS_of (hb s hs)⟩]
theorem taken_len (n : List S45) (b : List ByteArray) : (takenOf n b).length ≤ n.length := List.length_filter_le _ _
theorem merge_len (o n : List S45) (b : List ByteArray) : (mergeOf o n b).length ≤ o.length + n.length := by
  unfold mergeOf
  have h1 := List.length_filter_le (fun x => !decide (0 < (allOf (takenOf n b) x.f0).length)) o
  have h2 := taken_len n b
  rw [List.length_append]; omega
theorem merge_okL {o n : List S45} (ho : okL o) (hn : okL n) (b : List ByteArray) : okL (mergeOf o n b) := (ho.filter _).append (hn.filter _)
/-- A line of the taken ones has its name among them. -/
theorem taken_self {t : List S45} {x : S45} (hx : x ∈ t) : 0 < (allOf t x.f0).length := by
  rcases Nat.eq_zero_or_pos (allOf t x.f0).length with h | h
  · have h1 := (allOf_nil_iff t x.f0).1 (List.eq_nil_of_length_eq_zero h) x hx
    rw [same_self] at h1; cases h1
  · exact h
theorem merge_again (o n : List S45) (b : List ByteArray) : mergeOf (mergeOf o n b) n b = mergeOf o n b := by
  have e : mergeOf (mergeOf o n b) n b = ((mergeOf o n b).filter fun x => !decide (0 < (allOf (takenOf n b) x.f0).length)) ++ takenOf n b := rfl
  rw [e]
  unfold mergeOf
  rw [List.filter_append, List.filter_filter]
  have h1 : ((takenOf n b).filter fun x => !decide (0 < (allOf (takenOf n b) x.f0).length)) = [] := by
    rw [List.filter_eq_nil_iff]
    intro x hx
    rw [decide_eq_true (taken_self hx)]; simp
  rw [h1, List.append_nil]
  congr 2
  funext x
  rw [Bool.and_self]
/-- Does a name count among the new lines? -/
def isBut (b : List ByteArray) (n : ByteArray) : Bool := b.any fun s => Own.same s n
theorem isBut_congr (b : List ByteArray) {x y : ByteArray} (h : Own.low x = Own.low y) : isBut b x = isBut b y := by
  unfold isBut
  congr 1
  funext s
  exact same_congr rfl h
theorem allOf_taken (n : List S45) (b : List ByteArray) (m : ByteArray) : allOf (takenOf n b) m = if isBut b m = true then [] else allOf n m := by
  by_cases h : isBut b m = true
  · rw [if_pos h, allOf_nil_iff]
    intro x hx
    have h1 := (List.mem_filter.1 hx).2
    refine Bool.eq_false_iff.2 fun q => ?_
    have h2 := isBut_congr b ((same_iff _ _).1 q)
    rw [h] at h2
    unfold isBut at h2
    rw [h2] at h1; cases h1
  · rw [if_neg h]
    unfold allOf takenOf
    rw [List.filter_filter]
    congr 1
    apply List.filter_congr
    intro x hx
    cases hs : Own.same x.f0 m with
    | false => rfl
    | true =>
      have h2 := isBut_congr b ((same_iff _ _).1 hs)
      rw [Bool.eq_false_iff.2 h] at h2
      unfold isBut at h2
      rw [h2]; rfl
theorem allOf_merge (o n : List S45) (b : List ByteArray) (m : ByteArray) : allOf (mergeOf o n b) m = if (decide (0 < (allOf n m).length) && !isBut b m) = true then allOf n m else allOf o m := by
  unfold mergeOf
  rw [allOf_append]
  have key : allOf (o.filter fun x => !decide (0 < (allOf (takenOf n b) x.f0).length)) m = if 0 < (allOf (takenOf n b) m).length then [] else allOf o m := by
    by_cases h : 0 < (allOf (takenOf n b) m).length
    · rw [if_pos h, allOf_nil_iff]
      intro x hx
      have h1 := (List.mem_filter.1 hx).2
      refine Bool.eq_false_iff.2 fun q => ?_
      rw [allOf_congr (takenOf n b) ((same_iff _ _).1 q), decide_eq_true h] at h1
      cases h1
    · rw [if_neg h]
      unfold allOf
      rw [List.filter_filter]
      congr 1
      apply List.filter_congr
      intro x hx
      cases hs : Own.same x.f0 m with
      | false => rfl
      | true =>
        have h1 : ¬ 0 < (allOf (takenOf n b) x.f0).length := by rw [allOf_congr (takenOf n b) ((same_iff _ _).1 hs)]; exact h
        unfold allOf at h1
        rw [decide_eq_false h1]; rfl
  rw [key, allOf_taken]
  by_cases hb : isBut b m = true
  · rw [if_pos hb, if_neg (by simp), if_neg (by rw [hb]; simp), List.append_nil]
  · rw [if_neg hb]
    by_cases h0 : 0 < (allOf n m).length
    · rw [if_pos h0, if_pos (by rw [decide_eq_true h0, Bool.eq_false_iff.2 hb]; rfl), List.nil_append]
    · have e : allOf n m = [] := List.eq_nil_of_length_eq_zero (by omega)
      rw [if_neg h0, if_neg (by rw [decide_eq_false h0]; simp), e, List.append_nil]
theorem texts_ok (l : List ByteArray) : ∃ b, Ev (fun k => sprlaw13_texts.f k l) b ∧ (b = true → l.length ≤ 80) := texts_loop l l 0 0 rfl (by omega) (by omega) (by omega)
where
  texts_loop (l : List ByteArray) : ∀ (t : List ByteArray) (i : Nat) (n : Int), l.drop i = t → 0 ≤ n → n ≤ 80000 → i ≤ 80 → ∃ b, Ev (fun k => sprlaw13_texts.l0 k l n (i : Int)) b ∧ (b = true → l.length ≤ 80)
  | [], i, n, h, h0, h1, hi => by
    have := drop_nil h
    by_cases hl : l.length ≤ 80
    · exact ⟨_, Ev.step (fun _ => sprlaw13_texts.l0.eq_2 ..) (Ev.neg (by omega) (Ev.pos (by omega) (Ev.now _))), fun _ => hl⟩
    · exact ⟨false, Ev.step (fun _ => sprlaw13_texts.l0.eq_2 ..) (Ev.neg (by omega) (Ev.neg (by omega) (Ev.now _))), fun h => by cases h⟩
  | x :: t, i, n, h, h0, h1, hi => by
    obtain ⟨a1, a2, a3⟩ := drop_cons h
    by_cases h80 : i < 80
    · have mn2 : ∀ a b : Int, mn a b ≤ b ∧ (0 ≤ a → 0 ≤ b → 0 ≤ mn a b) := by intro a b; unfold mn; split <;> omega
      obtain ⟨b, hb, hf⟩ := texts_loop l t (i + 1) (mn (wrap64 (n + (mn ((rdOf ByteArray.empty l (i : Int)).size : Int) 20000))) 80000) a3 (by
        have q1 := mn2 ((rdOf ByteArray.empty l (i : Int)).size : Int) 20000
        have q3 := q1.2 (by omega) (by omega)
        rw [wrap_id (by omega) (by omega)]
        exact (mn2 _ _).2 (by omega) (by omega)) ((mn2 _ _).1) (by omega)
      refine ⟨b, Ev.step (fun _ => sprlaw13_texts.l0.eq_2 ..) (Ev.pos (by omega) (Ev.pos (by omega) (Ev.pos (by omega) ?_))), hf⟩
      rw [wrap_id (x := (i : Int) + 1) (by omega) (by omega), cast_succ]
      exact hb
    · refine ⟨false, Ev.step (fun _ => sprlaw13_texts.l0.eq_2 ..) (Ev.pos (by omega) (Ev.neg (by omega) (Ev.neg (by omega) (Ev.now _)))), fun h => by cases h⟩
theorem merges_l0 (o n : List S45) (b : List ByteArray) (m : ByteArray) (ho : okL o) (hn : okL n) (hol : o.length ≤ 80) (hnl : n.length ≤ 80) (hbl : b.length ≤ 80) (hb : ∀ s ∈ b, s.size ≤ 9223372036854775807) (hm : m.size ≤ 9223372036854775807) :
    ∀ (t : List ByteArray) (i : Nat) (c : Bool), b.drop i = t → c = (decide (0 < (allOf n m).length) && !isBut (b.take i) m) → Ev (fun k => sprlaw13_HeadMerges.l0 k o n b m (mergeOf o n b) c (i : Int)) true
  | [], i, c, ht, hc => by
    have h1 := drop_nil ht
    rw [List.take_of_length_le h1] at hc
    have hml := merge_len o n b
    have hmo := merge_okL ho hn b
    have hA := All_ok (l := mergeOf o n b) (by omega) hmo hm
    have hE := allOf_merge o n b m
    rw [← hc] at hE
    refine Ev.step (fun _ => sprlaw13_HeadMerges.l0.eq_2 ..) (Ev.neg (by omega) (Ev.bind (All_ok (by omega) ho hm) ?_))
    by_cases hct : c = true
    · refine Ev.pos hct (Ev.bind (All_ok (by omega) hn hm) (Ev.bind first_ok (Ev.pos rfl (Ev.bind hA ?_))))
      rw [if_pos hct] at hE
      rw [hE]
      have hT := Texts_ok (allOf n m) (allOf n m) (by have := allOf_len n m; omega)
      rw [decide_eq_true rfl] at hT
      exact Ev.bind hT (Ev.now _)
    · refine Ev.neg hct (Ev.bind first_ok (Ev.pos rfl (Ev.bind hA ?_)))
      rw [if_neg hct] at hE
      rw [hE]
      have hT := Texts_ok (allOf o m) (allOf o m) (by have := allOf_len o m; omega)
      rw [decide_eq_true rfl] at hT
      exact Ev.bind hT (Ev.now _)
  | x :: t, i, c, ht, hc => by
    obtain ⟨a1, a2, a3⟩ := drop_cons ht
    have hx : x ∈ b := List.mem_of_getElem? a2
    have htk : isBut (b.take (i + 1)) m = (isBut (b.take i) m || Own.same x m) := by
      unfold isBut
      rw [List.take_add_one, a2, List.any_append]; simp
    refine Ev.step (fun _ => sprlaw13_HeadMerges.l0.eq_2 ..) (Ev.pos (by omega) ?_)
    by_cases hct : c = true
    · refine Ev.pos hct (Ev.pos (by omega) ?_)
      rw [rdOf_of a2]
      refine Ev.bnd (Lower_ok (hb x hx)) (Ev.bnd (Lower_ok hm) ?_)
      rw [wrap_id (by omega) (by omega), cast_succ]
      refine merges_l0 o n b m ho hn hol hnl hbl hb hm t (i + 1) _ a3 ?_
      rw [hct] at hc
      have h2 : (decide (0 < (allOf n m).length) && !isBut (b.take i) m) = true := hc.symm
      rw [Bool.and_eq_true] at h2
      have h3 : isBut (b.take i) m = false := by simpa using h2.2
      rw [h2.1, htk, h3, Bool.false_or, Bool.true_and]
      rfl
    · refine Ev.neg hct ?_
      rw [wrap_id (by omega) (by omega), cast_succ]
      refine merges_l0 o n b m ho hn hol hnl hbl hb hm t (i + 1) _ a3 ?_
      have h2 : (decide (0 < (allOf n m).length) && !isBut (b.take i) m) = false := by rw [← hc]; exact Bool.eq_false_iff.2 hct
      rw [htk, Bool.not_or]
      revert h2
      cases decide (0 < (allOf n m).length) <;> cases isBut (b.take i) m <;> simp
theorem HeadMerges (o n : List S45) (b : List ByteArray) (m : ByteArray) (g0 : o.length ≤ maxLen ∧ ∀ x ∈ o, x.f0.size ≤ maxLen ∧ x.f1.size ≤ maxLen) (g1 : n.length ≤ maxLen ∧ ∀ x ∈ n, x.f0.size ≤ maxLen ∧ x.f1.size ≤ maxLen) (g2 : b.length ≤ maxLen ∧ ∀ x ∈ b, x.size ≤ maxLen) (g3 : m.size ≤ maxLen) : ∃ k, sprlaw13_HeadMerges.f k o n b m = some true := by
  have ho : okL o := g0.2
  have hn : okL n := g1.2
  have hb : ∀ s ∈ b, s.size ≤ 9223372036854775807 := g2.2
  have big : Ev (fun k => sprlaw13_HeadMerges.j0 k o n b m true) true := Ev.step (fun _ => sprlaw13_HeadMerges.j0.eq_2 ..) (Ev.pos rfl (Ev.bind first_ok (Ev.now _)))
  refine Ev.rounds ?_
  unfold sprlaw13_HeadMerges.f
  refine Ev.bind first_ok (Ev.pos rfl ?_)
  obtain ⟨b0, hb0, hf0⟩ := Few_ok o
  obtain ⟨b1, hb1, hf1⟩ := Few_ok n
  obtain ⟨b2, hb2, hf2⟩ := texts_ok b
  refine Ev.bind hb0 ?_
  by_cases e0 : b0 = false
  · exact Ev.neg (by rw [e0]; simp) big
  have e0' : b0 = true := by cases b0 <;> simp_all
  refine Ev.pos e0' (Ev.bind hb1 ?_)
  by_cases e1 : b1 = false
  · exact Ev.neg (by rw [e1]; simp) big
  have e1' : b1 = true := by cases b1 <;> simp_all
  refine Ev.pos e1' (Ev.bind hb2 ?_)
  by_cases e2 : b2 = false
  · exact Ev.neg (by rw [e2]; simp) big
  have e2' : b2 = true := by cases b2 <;> simp_all
  refine Ev.pos e2' ?_
  have l0 := hf0 e0'
  have l1 := hf1 e1'
  have l2 := hf2 e2'
  by_cases g : (m.size : Int) > 2000
  · rw [decide_eq_true g]; exact big
  rw [decide_eq_false g]
  have hml := merge_len o n b
  have hm : m.size ≤ 9223372036854775807 := by omega
  have h2 := Merge_ok (merge_okL ho hn b) hn (by omega) hb
  rw [merge_again] at h2
  have hF := Fields_ok (mergeOf o n b) (mergeOf o n b) (by omega)
  rw [decide_eq_true rfl] at hF
  refine Ev.step (fun _ => sprlaw13_HeadMerges.j0.eq_2 ..) (Ev.neg (by simp) (Ev.bnd (Merge_ok ho hn (by omega) hb) (Ev.bnd h2 (Ev.bind hF (Ev.pos rfl (Ev.bind (All_ok (by omega) hn hm) ?_))))))
  refine merges_l0 o n b m ho hn l0 l1 l2 hb hm b 0 _ rfl ?_
  have : isBut (b.take 0) m = false := rfl
  rw [this, Bool.not_false, Bool.and_true]
  congr 1
  simp

end Go.Proofs.YtmcjmmdejgoamaaDoor.Pure
