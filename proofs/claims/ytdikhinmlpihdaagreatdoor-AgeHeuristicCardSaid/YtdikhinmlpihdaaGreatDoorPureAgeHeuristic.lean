/-
The law AgeHeuristic: of a usual status that was changed last so long ago it is fresh a tenth of that, a week at most; of another one, or told otherwise, not.
-/
import Derived.Test.YtdikhinmlpihdaaGreatDoorA15
set_option linter.unusedVariables false
set_option linter.unusedSimpArgs false
namespace Go.Proofs.YtdikhinmlpihdaaGreatDoor.Pure
open Go.RowKit Go.Proofs.YtdikhinmlpihdaaGreatDoor.A Go.Proofs.YtdikhinmlpihdaaGreatDoorW.PrintWords Go.Proofs.YtdikhinmlpihdaaGreatDoorW.PrintLast
theorem wrap_id {x : Int} (h0 : -9223372036854775808 ≤ x) (h1 : x ≤ 9223372036854775807) : wrap64 x = x := by unfold wrap64; omega
theorem Ev.succ {α : Type} {g : Nat → Option α} {r : α} (h : Ev (fun k => g (k + 1)) r) : Ev g r := Ev.step (fun _ => rfl) h
theorem Ev.konst {α : Type} {o : Option α} {r : α} (h : o = some r) : Ev (fun _ => o) r := ⟨0, fun _ _ => h⟩
theorem Ev.at {α : Type} {g : Nat → Option α} {r : α} (K : Nat) (h : ∀ k, g (k + K) = some r) : Ev g r := ⟨K, fun n hn => by
  obtain ⟨m, rfl⟩ : ∃ m, n = m + K := ⟨n - K, by omega⟩
  exact h m⟩
theorem drop_cons {α : Type} {l : List α} {i : Nat} {c : α} {t : List α} (h : l.drop i = c :: t) : i < l.length ∧ l[i]? = some c ∧ l.drop (i + 1) = t := by
  have h1 : (l.drop i)[0]? = some c := by rw [h]; rfl
  rw [List.getElem?_drop] at h1
  simp only [Nat.add_zero] at h1
  refine ⟨(List.getElem?_eq_some_iff.1 h1).1, h1, ?_⟩
  rw [← List.drop_drop, h]; rfl
theorem drop_nil {α : Type} {l : List α} {i : Nat} (h : l.drop i = []) : l.length ≤ i := by
  simpa using h
theorem rd_of {l : List Int} {i : Nat} {c : Int} (h : l[i]? = some c) : rd l (i : Int) = c := by
  unfold rd; rw [Int.toNat_natCast, List.getD_eq_getElem?_getD, h]; rfl
theorem rdOf_of {α : Type} {d : α} {l : List α} {i : Nat} {c : α} (h : l[i]? = some c) : rdOf d l (i : Int) = c := by
  unfold rdOf; rw [Int.toNat_natCast, List.getD_eq_getElem?_getD, h]; rfl
theorem cast_succ (i : Nat) : ((i : Int) + 1) = ((i + 1 : Nat) : Int) := by omega
theorem Ev.pos {α : Type} {c : Prop} [Decidable c] {A B : Nat → Option α} {r : α} (h : c) (k : Ev A r) : Ev (fun n => if c then A n else B n) r := Ev.congr (fun _ => if_pos h) k
theorem Ev.neg {α : Type} {c : Prop} [Decidable c] {A B : Nat → Option α} {r : α} (h : ¬ c) (k : Ev B r) : Ev (fun n => if c then A n else B n) r := Ev.congr (fun _ => if_neg h) k
theorem Ev.bnd {α β : Type} {o : Option β} {a : β} {f : Nat → β → Option α} {r : α} (h : o = some a) (k : Ev (fun n => f n a) r) : Ev (fun n => o.bind (f n)) r := by
  subst h; exact k
/-- A text's bytes. -/
def B (s : ByteArray) : List UInt8 := s.data.toList
def mk (l : List UInt8) : ByteArray := ⟨l.toArray⟩
theorem B_mk (l : List UInt8) : B (mk l) = l := rfl
theorem mk_B (s : ByteArray) : mk (B s) = s := rfl
theorem B_inj {s t : ByteArray} (h : B s = B t) : s = t := by rw [← mk_B s, ← mk_B t, h]
theorem toList_B (s : ByteArray) : s.toList = B s := Lib.toList_data s
theorem size_B (s : ByteArray) : s.size = (B s).length := Lib.size_eq s
theorem B_extract (s : ByteArray) (a b : Nat) : B (s.extract a b) = ((B s).drop a).take (b - a) := Lib.extract_data s a b
theorem B_append (s t : ByteArray) : B (s ++ t) = B s ++ B t := by
  unfold B
  rw [ByteArray.data_append, Array.toList_append]
theorem B_to (s : ByteArray) (n : Nat) : B (s.extract 0 n) = (B s).take n := by rw [B_extract, List.drop_zero, Nat.sub_zero]
theorem B_from (s : ByteArray) (n : Nat) : B (s.extract n s.size) = (B s).drop n := by
  rw [B_extract, size_B]
  exact List.take_of_length_le (by rw [List.length_drop]; omega)
theorem bt_of {s : ByteArray} {i : Nat} {c : UInt8} (h : (B s)[i]? = some c) : bt s (i : Int) = (c.toNat : Int) := by
  unfold bt
  have hi : i < s.size := by rw [size_B]; exact (List.getElem?_eq_some_iff.1 h).1
  rw [Int.toNat_natCast, dif_pos hi]
  have : (s[i]'hi) = c := by
    have h1 : (B s)[i]? = some (s[i]'hi) := by
      unfold B
      rw [Array.getElem?_toList]
      exact Array.getElem?_eq_getElem _
    rw [h1] at h
    exact Option.some.inj h
  rw [this]
/-- The byte that a suffix begins with. -/
theorem bt_drop {s : ByteArray} {i : Nat} {c : UInt8} {t : List UInt8} (h : (B s).drop i = c :: t) : bt s (i : Int) = (c.toNat : Int) ∧ i < s.size ∧ (B s).drop (i + 1) = t := by
  obtain ⟨h1, h2, h3⟩ := drop_cons h
  exact ⟨bt_of h2, by rw [size_B]; exact h1, h3⟩
theorem end_drop {s : ByteArray} {i : Nat} (h : (B s).drop i = []) : s.size ≤ i := by rw [size_B]; exact drop_nil h
theorem u8_eq (c : UInt8) (n : Nat) (h : n < 256) : ((c.toNat : Int) = (n : Int)) ↔ c = UInt8.ofNat n := by
  constructor
  · intro e
    have e' : c.toNat = n := by omega
    rw [← e']; exact (UInt8.ofNat_toNat).symm
  · intro e
    rw [e, UInt8.toNat_ofNat']
    have : n % 2 ^ 8 = n := Nat.mod_eq_of_lt h
    omega
theorem u8_lt (c : UInt8) : (c.toNat : Int) < 256 ∧ 0 ≤ (c.toNat : Int) := by
  have := UInt8.toNat_lt c
  omega
/-! names in small letters -/
theorem lowb_low (c : UInt8) : Own.lowb (Own.lowb c) = Own.lowb c := by
  by_cases h : 65 ≤ c.toNat ∧ c.toNat ≤ 90
  · have e : Own.lowb c = c + 32 := by unfold Own.lowb; rw [if_pos h]
    have h2 : (c + 32).toNat = c.toNat + 32 := by
      rw [UInt8.toNat_add]
      show (c.toNat + 32) % 256 = _
      omega
    rw [e]
    unfold Own.lowb
    rw [if_neg (by omega)]
  · have e : Own.lowb c = c := by unfold Own.lowb; rw [if_neg h]
    rw [e, e]
theorem low_low (s : ByteArray) : Own.low (Own.low s) = Own.low s := by
  apply B_inj
  show ((s.data.toList.map Own.lowb).map Own.lowb) = s.data.toList.map Own.lowb
  rw [List.map_map]
  congr 1
  funext c
  exact lowb_low c
theorem low_size (s : ByteArray) : (Own.low s).size = s.size := by
  rw [size_B, size_B s]
  show (s.data.toList.map Own.lowb).length = _
  rw [List.length_map]; rfl
/-- The values of a name. -/
def allOf (l : List S35) (nm : ByteArray) : List ByteArray := (l.filter fun x => Own.same x.f0 nm).map (·.f1)
theorem head_is_sameM (a b : ByteArray) (ha : Own.okS a = true) (hb : Own.okS b = true) : head_is.f a b = some (Own.same a b) := by
  unfold Own.okS at ha hb
  unfold head_is.f head_Lower.f
  rw [if_pos (of_decide_eq_true ha), if_pos (of_decide_eq_true hb)]
  rfl
theorem head_All_from (l : List S35) (nm : ByteArray) (hl : l.length < 4398046511104) (hn : Own.okS nm = true) (ho : ∀ x ∈ l, Own.okS x.f0 = true) : ∀ (t : List S35) (i : Nat) (acc : List ByteArray), l.drop i = t → acc.length ≤ i →
    head_All.l0 (t.length + 1) nm acc l (l.length : Int) (i : Int) = some (acc ++ allOf t nm)
  | [], i, acc, ht, ha => by
    have h1 : l.length ≤ i := by
      rcases Nat.lt_or_ge i l.length with h | h
      · rw [List.drop_eq_getElem_cons h] at ht; cases ht
      · exact h
    unfold head_All.l0
    rw [if_neg (by omega)]
    simp [allOf]
  | x :: t, i, acc, ht, ha => by
    have hi : i < l.length := by
      rcases Nat.lt_or_ge i l.length with h | h
      · exact h
      · rw [List.drop_eq_nil_of_le h] at ht; cases ht
    rw [List.drop_eq_getElem_cons hi] at ht
    injection ht with hx ht
    have hr : rd_T35 l (i : Int) = x := by
      unfold rd_T35; rw [Int.toNat_natCast, List.getD_eq_getElem?_getD, List.getElem?_eq_getElem hi, hx]; rfl
    have hw : wrap64 ((i : Int) + 1) = ((i + 1 : Nat) : Int) := by unfold wrap64; omega
    have hm : x ∈ l := by rw [← hx]; exact List.getElem_mem hi
    have ih := fun acc ha => head_All_from l nm hl hn ho t (i + 1) acc ht ha
    show head_All.l0 (t.length + 1 + 1) nm acc l (l.length : Int) (i : Int) = _
    rw [head_All.l0, if_pos (by omega), if_pos (by omega), if_pos (by omega), hr, head_is_sameM _ _ (ho x hm) hn, hw, Option.bind_some]
    cases hs : Own.same x.f0 nm with
    | true =>
      rw [if_pos rfl, if_pos (by omega), ih _ (by rw [List.length_append, List.length_singleton]; omega)]
      simp [allOf, hs]
    | false =>
      rw [if_neg (by simp), ih _ (by omega)]
      simp [allOf, hs]
theorem head_All_is (l : List S35) (nm : ByteArray) (hl : l.length < 4398046511104) (hn : Own.okS nm = true) (ho : ∀ x ∈ l, Own.okS x.f0 = true) : head_All.f (l.length + 1) l nm = some (allOf l nm) := by
  have := head_All_from l nm hl hn ho l 0 [] rfl (Nat.le_refl 0)
  rw [List.nil_append] at this
  exact this
theorem same_iff (a b : ByteArray) : Own.same a b = true ↔ Own.low a = Own.low b := by
  unfold Own.same
  rw [toList_B, toList_B, beq_iff_eq]
  exact ⟨B_inj, fun h => by rw [h]⟩
theorem same_congr {a a' b b' : ByteArray} (h1 : Own.low a = Own.low a') (h2 : Own.low b = Own.low b') : Own.same a b = Own.same a' b' := by
  rw [Bool.eq_iff_iff, same_iff, same_iff, h1, h2]
theorem same_low (a b : ByteArray) : Own.same a (Own.low b) = Own.same a b := same_congr rfl (low_low b)
theorem same_self (a : ByteArray) : Own.same a a = true := (same_iff a a).2 rfl
theorem okS_of {s : ByteArray} (h : s.size ≤ 9223372036854775807) : Own.okS s = true := decide_eq_true h
instance : DecidableEq S35 := fun a b => decidable_of_iff (a.f0 = b.f0 ∧ a.f1 = b.f1) ⟨fun h => by cases a; cases b; cases h.1; cases h.2; rfl, fun h => by rw [h]; exact ⟨rfl, rfl⟩⟩
/-- Lines that the form lets in. -/
def okL (l : List S35) : Prop := ∀ x ∈ l, x.f0.size ≤ 9223372036854775807 ∧ x.f1.size ≤ 9223372036854775807
theorem okL.all {l : List S35} (h : okL l) : (l.all fun x => Own.okS x.f0) = true := List.all_eq_true.2 fun x hx => okS_of (h x hx).1
theorem okL.filter {l : List S35} (h : okL l) (p : S35 → Bool) : okL (l.filter p) := fun x hx => h x (List.mem_filter.1 hx).1
theorem okL.append {l m : List S35} (h : okL l) (k : okL m) : okL (l ++ m) := fun x hx => (List.mem_append.1 hx).elim (h x) (k x)
theorem allOf_append (l m : List S35) (n : ByteArray) : allOf (l ++ m) n = allOf l n ++ allOf m n := by
  unfold allOf; rw [List.filter_append, List.map_append]
theorem allOf_nil_iff (l : List S35) (n : ByteArray) : allOf l n = [] ↔ ∀ x ∈ l, Own.same x.f0 n = false := by
  unfold allOf
  rw [List.map_eq_nil_iff, List.filter_eq_nil_iff]
  exact ⟨fun h x hx => by simpa using h x hx, fun h x hx => by simpa using h x hx⟩
theorem allOf_congr (l : List S35) {a b : ByteArray} (h : Own.low a = Own.low b) : allOf l a = allOf l b := by
  unfold allOf
  congr 2
  funext x
  exact same_congr rfl h
theorem allOf_len (l : List S35) (n : ByteArray) : (allOf l n).length ≤ l.length := by
  unfold allOf; rw [List.length_map]; exact List.length_filter_le _ _
def blank (c : UInt8) : Bool := ([32, 9] : List UInt8).contains c
/-- Blanks and tabs at both ends away. -/
def tr (l : List UInt8) : List UInt8 := Lib.trimS l [32, 9]
def rdw (p : UInt8 → Bool) (l : List UInt8) : List UInt8 := (l.reverse.dropWhile p).reverse
theorem rdw_cons (p : UInt8 → Bool) (x : UInt8) (t : List UInt8) : rdw p (x :: t) = if rdw p t = [] then (if p x = true then [] else [x]) else x :: rdw p t := by
  unfold rdw
  rw [List.reverse_cons, List.dropWhile_append]
  by_cases h : (t.reverse.dropWhile p) = []
  · rw [h]
    by_cases hx : p x = true <;> simp [hx, List.dropWhile]
  · have h' : ¬ (t.reverse.dropWhile p).reverse = [] := fun e => h (List.reverse_eq_nil_iff.1 e)
    rw [if_neg h', if_neg (by simpa using h)]
    simp
theorem rdw_comm (p : UInt8 → Bool) : ∀ l : List UInt8, (rdw p l).dropWhile p = rdw p (l.dropWhile p)
  | [] => rfl
  | x :: t => by
    have ih := rdw_comm p t
    by_cases hx : p x = true
    · rw [List.dropWhile_cons, if_pos hx, ← ih, rdw_cons]
      by_cases h : rdw p t = []
      · rw [if_pos h, if_pos hx, h]
      · rw [if_neg h, List.dropWhile_cons, if_pos hx]
    · rw [List.dropWhile_cons, if_neg hx, rdw_cons]
      by_cases h : rdw p t = []
      · rw [if_pos h, if_neg hx, List.dropWhile_cons, if_neg hx]
      · rw [if_neg h, List.dropWhile_cons, if_neg hx]
theorem tr_eq (l : List UInt8) : tr l = rdw blank (l.dropWhile blank) := by
  rw [← rdw_comm]; rfl
theorem tr_nil : tr [] = [] := rfl
theorem length_dropWhile_le (p : UInt8 → Bool) : ∀ l : List UInt8, (l.dropWhile p).length ≤ l.length
  | [] => Nat.le_refl _
  | x :: t => by
    rw [List.dropWhile_cons]
    have := length_dropWhile_le p t
    split <;> simp only [List.length_cons] <;> omega
theorem tr_len (l : List UInt8) : (tr l).length ≤ l.length := by
  rw [tr_eq]
  unfold rdw
  have h1 := length_dropWhile_le blank (l.dropWhile blank).reverse
  have h2 := length_dropWhile_le blank l
  simp only [List.length_reverse] at h1 ⊢
  omega
/-- Nothing blank at the ends: it stays. -/
theorem dropWhile_idem (p : UInt8 → Bool) : ∀ l : List UInt8, (l.dropWhile p).dropWhile p = l.dropWhile p
  | [] => rfl
  | x :: t => by
    by_cases hx : p x = true
    · rw [List.dropWhile_cons, if_pos hx]; exact dropWhile_idem p t
    · rw [List.dropWhile_cons, if_neg hx, List.dropWhile_cons, if_neg hx]
theorem tr_tr (l : List UInt8) : tr (tr l) = tr l := by
  have e : ∀ m, tr m = (rdw blank m).dropWhile blank := fun m => by rw [tr_eq, rdw_comm]
  have r2 : ∀ m, rdw blank (rdw blank m) = rdw blank m := fun m => by unfold rdw; rw [List.reverse_reverse, dropWhile_idem]
  rw [e (tr l), tr_eq l, r2, rdw_comm, dropWhile_idem]
/-- Where the first piece ends, from a state on. -/
def pc : Bool → List UInt8 → Nat
  | _, [] => 0
  | q, c :: t =>
    if c = 34 then 1 + pc (!q) t
    else if q = true ∧ c = 92 then (match t with | [] => 1 | _ :: u => 2 + pc q u)
    else if c = 44 ∧ q = false then 0
    else 1 + pc q t
theorem pc_cons (q : Bool) (c : UInt8) (t : List UInt8) : pc q (c :: t) = if c = 34 then 1 + pc (!q) t else if q = true ∧ c = 92 then (match t with | [] => 1 | _ :: u => 2 + pc q u) else if c = 44 ∧ q = false then 0 else 1 + pc q t := by rw [pc.eq_def]
theorem pc_le : ∀ (l : List UInt8) (q : Bool), pc q l ≤ l.length
  | [], q => by simp [pc]
  | [c], q => by
    have : ∀ q, pc q ([] : List UInt8) = 0 := fun _ => rfl
    unfold pc
    (repeat' split) <;> simp_all [pc]
  | c :: d :: u, q => by
    have h1 := pc_le (d :: u) (!q)
    have h2 := pc_le (d :: u) q
    have h3 := pc_le u q
    unfold pc
    simp only [List.length_cons] at h1 h2 ⊢
    split
    · omega
    · split
      · omega
      · split <;> omega
def one (l : List UInt8) : List (List UInt8) := if tr l = [] then [] else [tr l]
/-- The pieces of one value: what has been gone through since the last cut, the state, the rest. -/
def rf : List UInt8 → Bool → List UInt8 → List (List UInt8)
  | cur, _, [] => one cur
  | cur, q, c :: t =>
    if c = 34 then rf (cur ++ [c]) (!q) t
    else if q = true ∧ c = 92 then (match t with | [] => one (cur ++ [c]) | d :: u => rf (cur ++ [c, d]) q u)
    else if c = 44 ∧ q = false then one cur ++ rf [] false t
    else rf (cur ++ [c]) q t
theorem rf_cons (cur : List UInt8) (q : Bool) (c : UInt8) (t : List UInt8) : rf cur q (c :: t) = if c = 34 then rf (cur ++ [c]) (!q) t else if q = true ∧ c = 92 then (match t with | [] => one (cur ++ [c]) | d :: u => rf (cur ++ [c, d]) q u) else if c = 44 ∧ q = false then one cur ++ rf [] false t else rf (cur ++ [c]) q t := by rw [rf.eq_def]
theorem rf_plain (cur : List UInt8) (q : Bool) (c : UInt8) (t : List UInt8) (h : ¬ (q = true ∧ c = 92)) : rf cur q (c :: t) = if c = 34 then rf (cur ++ [c]) (!q) t else if c = 44 ∧ q = false then one cur ++ rf [] false t else rf (cur ++ [c]) q t := by rw [rf_cons, if_neg h]
def pieces (l : List UInt8) : List (List UInt8) := rf [] false l
theorem rf_pc : ∀ (l cur : List UInt8) (q : Bool), rf cur q l = one (cur ++ l.take (pc q l)) ++ (if pc q l < l.length then pieces (l.drop (pc q l + 1)) else [])
  | [], cur, q => by simp [rf, pc]
  | [c], cur, q => by
    have h0 : ∀ q, pc q ([] : List UInt8) = 0 := fun _ => rfl
    have h1 : ∀ cur q, rf cur q [] = one cur := fun _ _ => rfl
    unfold rf pc
    by_cases e1 : c = 34
    · simp [e1, h0, h1]
    · by_cases e2 : q = true ∧ c = 92
      · simp [e1, e2]
      · by_cases e3 : c = 44 ∧ q = false
        · simp [e3, pieces, h1]
        · rw [if_neg e1, if_neg e2, if_neg e3, if_neg e1, if_neg e2, if_neg e3, h0, h1]
          simp
  | c :: d :: u, cur, q => by
    have i1 := rf_pc (d :: u) (cur ++ [c]) (!q)
    have i2 := rf_pc (d :: u) (cur ++ [c]) q
    have i3 := rf_pc u (cur ++ [c, d]) q
    rw [rf, pc]
    by_cases e1 : c = 34
    · rw [if_pos e1, if_pos e1, i1]
      rw [show (1 + pc (!q) (d :: u)) = pc (!q) (d :: u) + 1 from by omega, List.take_succ_cons, List.drop_succ_cons]
      simp only [List.length_cons, List.append_assoc, List.cons_append, List.nil_append]
      congr 1
      by_cases hlt : pc (!q) (d :: u) < u.length + 1
      · rw [if_pos hlt, if_pos (by omega)]; simp only [List.drop_succ_cons]
      · rw [if_neg hlt, if_neg (by omega)]
    · rw [if_neg e1, if_neg e1]
      by_cases e2 : q = true ∧ c = 92
      · rw [if_pos e2, if_pos e2]
        show rf (cur ++ [c, d]) q u = one (cur ++ (c :: d :: u).take (2 + pc q u)) ++ (if 2 + pc q u < (c :: d :: u).length then pieces ((c :: d :: u).drop (2 + pc q u + 1)) else [])
        rw [i3, show 2 + pc q u = pc q u + 1 + 1 from by omega, List.take_succ_cons, List.take_succ_cons, List.drop_succ_cons, List.drop_succ_cons]
        simp only [List.length_cons, List.append_assoc, List.cons_append, List.nil_append]
        congr 1
        by_cases hlt : pc q u < u.length
        · rw [if_pos hlt, if_pos (by omega)]
        · rw [if_neg hlt, if_neg (by omega)]
      · rw [if_neg e2, if_neg e2]
        by_cases e3 : c = 44 ∧ q = false
        · rw [if_pos e3, if_pos e3]
          simp [pieces]
        · rw [if_neg e3, if_neg e3, i2]
          rw [show (1 + pc q (d :: u)) = pc q (d :: u) + 1 from by omega, List.take_succ_cons, List.drop_succ_cons]
          simp only [List.length_cons, List.append_assoc, List.cons_append, List.nil_append]
          congr 1
          by_cases hlt : pc q (d :: u) < u.length + 1
          · rw [if_pos hlt, if_pos (by omega)]; simp only [List.drop_succ_cons]
          · rw [if_neg hlt, if_neg (by omega)]
theorem pieces_nil : pieces [] = [] := by simp [pieces, rf, one, tr_nil]
theorem pieces_pc (l : List UInt8) : pieces l = one (l.take (pc false l)) ++ (if pc false l < l.length then pieces (l.drop (pc false l + 1)) else []) := by
  have := rf_pc l [] false
  rw [List.nil_append] at this
  exact this
/-- The same where the rest is cut as the program cuts it. -/
theorem pieces_cut (l : List UInt8) : pieces l = one (l.take (pc false l)) ++ pieces (l.drop (min (pc false l + 1) l.length)) := by
  have h := pc_le l false
  rw [pieces_pc l]
  by_cases hlt : pc false l < l.length
  · rw [if_pos hlt, Nat.min_eq_left (by omega)]
  · rw [if_neg hlt, Nat.min_eq_right (by omega), List.drop_length, pieces_nil]
theorem one_len (l : List UInt8) : (one l).length ≤ 1 := by unfold one; split <;> simp
theorem pieces_len : ∀ (n : Nat) (l : List UInt8), l.length ≤ n → (pieces l).length ≤ l.length + 1
  | 0, l, h => by
    have : l = [] := by cases l <;> simp_all
    subst this; rw [pieces_nil]; simp
  | n + 1, l, h => by
    rw [pieces_pc l]
    have h1 := one_len (l.take (pc false l))
    by_cases hlt : pc false l < l.length
    · rw [if_pos hlt, List.length_append]
      have h2 := pieces_len n (l.drop (pc false l + 1)) (by rw [List.length_drop]; omega)
      rw [List.length_drop] at h2
      omega
    · rw [if_neg hlt, List.length_append]
      simp only [List.length_nil]; omega
/-- The pieces of several values. -/
def splits (v : List ByteArray) : List (List UInt8) := v.flatMap fun s => pieces (B s)
theorem sum_size : ∀ (l : List ByteArray), l.length ≤ (l.map fun y => (y.size + 1)).sum ∧ ∀ s ∈ l, s.size + 1 ≤ (l.map fun y => (y.size + 1)).sum
  | [] => by simp
  | x :: t => by
    obtain ⟨h1, h2⟩ := sum_size t
    simp only [List.map_cons, List.sum_cons, List.length_cons]
    refine ⟨by omega, fun s hs => ?_⟩
    rcases List.mem_cons.1 hs with rfl | hs
    · omega
    · have := h2 s hs; omega
theorem pieces_small : ∀ (n : Nat) (l : List UInt8), l.length ≤ n → ∀ x ∈ pieces l, x.length ≤ l.length
  | 0, l, h => by
    have : l = [] := by cases l <;> simp_all
    subst this; rw [pieces_nil]; simp
  | n + 1, l, h => by
    intro x hx
    rw [pieces_pc l] at hx
    rcases List.mem_append.1 hx with hx | hx
    · unfold one at hx
      split at hx
      · simp at hx
      · have e : x = tr (l.take (pc false l)) := by simpa using hx
        have h1 := tr_len (l.take (pc false l))
        have h2 := List.length_take_le (pc false l) l
        have h3 := pc_le l false
        rw [e]
        rw [List.length_take] at h1 h2
        omega
    · split at hx
      · have := pieces_small n (l.drop (pc false l + 1)) (by rw [List.length_drop]; omega) x hx
        rw [List.length_drop] at this; omega
      · simp at hx
theorem splits_small {N : Nat} (v : List ByteArray) (hb : ∀ s ∈ v, s.size ≤ N) : ∀ x ∈ splits v, x.length ≤ N := by
  intro x hx
  obtain ⟨s, hs, hx⟩ := List.mem_flatMap.1 hx
  have h1 := pieces_small _ (B s) (Nat.le_refl _) x hx
  have h2 := hb s hs
  rw [size_B] at h2; omega
theorem splits_few : ∀ (v : List ByteArray), (splits v).length ≤ (v.map fun y => (y.size + 1)).sum
  | [] => by simp [splits]
  | s :: t => by
    have h1 := splits_few t
    have h2 := pieces_len (B s).length (B s) (Nat.le_refl _)
    rw [← size_B] at h2
    simp only [splits, List.flatMap_cons, List.length_append, List.map_cons, List.sum_cons] at h1 ⊢
    omega
/-! what Cache-Control says, piece by piece -/
def secVal : List UInt8 → Int → Option Int
  | [], n => some n
  | c :: t, n => if 48 ≤ c.toNat ∧ c.toNat ≤ 57 then secVal t (mn (n * 10 + ((c.toNat : Int) - 48)) 2147483648) else none
def secsOf (l : List UInt8) : Int × Bool := if l = [] ∨ 4000 < l.length then (0, false) else match secVal l 0 with | some n => (n, true) | none => (0, false)
def unq (l : List UInt8) : List UInt8 := if 2 ≤ l.length ∧ l[0]? = some 34 ∧ l[l.length - 1]? = some 34 then (l.drop 1).take (l.length - 2) else l
def cutL : List UInt8 → List UInt8 × List UInt8 × Bool
  | [] => ([], [], false)
  | c :: t => if c = 61 then ([], t, true) else (c :: (cutL t).1, (cutL t).2.1, (cutL t).2.2)
theorem cutL_len : ∀ l : List UInt8, (cutL l).1.length ≤ l.length ∧ (cutL l).2.1.length ≤ l.length ∧ ((cutL l).2.2 = false → (cutL l).1 = l ∧ (cutL l).2.1 = []) ∧ ((cutL l).2.2 = true → (cutL l).1.length < l.length ∧ (cutL l).2.1 = l.drop ((cutL l).1.length + 1))
  | [] => by simp [cutL]
  | c :: t => by
    obtain ⟨h1, h2, h3, h4⟩ := cutL_len t
    unfold cutL
    by_cases hc : c = 61
    · rw [if_pos hc]; simp
    · rw [if_neg hc]
      refine ⟨by simp only [List.length_cons]; omega, by simp only [List.length_cons]; omega, fun h => ?_, fun h => ?_⟩
      · obtain ⟨a, b⟩ := h3 h
        exact ⟨by show c :: (cutL t).1 = _; rw [a], b⟩
      · obtain ⟨a, b⟩ := h4 h
        exact ⟨by simp only [List.length_cons]; omega, by simp only [List.length_cons, List.drop_succ_cons]; exact b⟩
theorem cutL_idx : ∀ l : List UInt8, -1 ≤ Lib.indexByte l 61 ∧ (if Lib.indexByte l 61 ≥ 0 then cutL l = (l.take (Lib.indexByte l 61).toNat, l.drop (Lib.indexByte l 61 + 1).toNat, true) else cutL l = (l, [], false))
  | [] => by simp [Lib.indexByte, cutL]
  | c :: t => by
    obtain ⟨h0, h1⟩ := cutL_idx t
    unfold cutL Lib.indexByte
    by_cases hc : c = 61
    · rw [if_pos hc, if_pos (by rw [hc]; rfl)]; simp
    · rw [if_neg hc, if_neg (by simpa using hc)]
      by_cases hi : Lib.indexByte t 61 = -1
      · rw [if_pos (by rw [hi]; rfl)]
        rw [hi, if_neg (by omega)] at h1
        refine ⟨by omega, ?_⟩
        rw [if_neg (by omega), h1]
      · rw [if_neg (by simpa using hi)]
        rw [if_pos (by omega)] at h1
        refine ⟨by omega, ?_⟩
        rw [if_pos (by omega), h1]
        obtain ⟨n, hn⟩ : ∃ n : Nat, Lib.indexByte t 61 = n := ⟨(Lib.indexByte t 61).toNat, by omega⟩
        rw [hn]
        have e1 : ((n : Int) + 1).toNat = n + 1 := by omega
        have e2 : ((n : Int) + 1 + 1).toNat = n + 2 := by omega
        rw [e1, e2]
        simp
/-- What a piece says: which name, is there a number, which. -/
def dirOf (l : List UInt8) : Nat × Bool × Int × Bool :=
  (Own.kindOf (Own.low (mk (tr (cutL l).1))), (cutL l).2.2, (secsOf (unq (tr (cutL l).2.1))).1, (secsOf (unq (tr (cutL l).2.1))).2)
def actD (c : Own.Ctl) (d : Nat × Bool × Int × Bool) : Own.Ctl := c.act d.1 d.2.1 d.2.2.1 d.2.2.2
def actL (c : Own.Ctl) (l : List UInt8) : Own.Ctl := actD c (dirOf l)
/-- What values say. -/
def ctlOf (v : List ByteArray) : Own.Ctl := ((splits v).foldl actL Own.Ctl.zero).fin
theorem least_comm (p q : Bool) (h : Bool) (x n m : Int) : (if q = true then Own.leastOf (h || p) (if p = true then Own.leastOf h x n else x) m else (if p = true then Own.leastOf h x n else x)) = (if p = true then Own.leastOf (h || q) (if q = true then Own.leastOf h x m else x) n else (if q = true then Own.leastOf h x m else x)) := by
  cases p <;> cases q <;> cases h <;> simp [Own.leastOf] <;> (repeat' split) <;> omega
theorem greatest_comm (p q : Bool) (x n m : Int) : (if q = true then Own.greatestOf (if p = true then Own.greatestOf x n else x) m else (if p = true then Own.greatestOf x n else x)) = (if p = true then Own.greatestOf (if q = true then Own.greatestOf x m else x) n else (if q = true then Own.greatestOf x m else x)) := by
  cases p <;> cases q <;> simp [Own.greatestOf] <;> (repeat' split) <;> omega
theorem act_comm (c : Own.Ctl) (d e : Nat × Bool × Int × Bool) : actD (actD c d) e = actD (actD c e) d := by
  unfold actD Own.Ctl.act
  simp only [Own.Ctl.mk.injEq]
  exact ⟨Bool.or_right_comm _ _ _, Bool.or_right_comm _ _ _, Bool.or_right_comm _ _ _, Bool.or_right_comm _ _ _, Bool.or_right_comm _ _ _, Bool.or_right_comm _ _ _, Bool.or_right_comm _ _ _, Bool.or_right_comm _ _ _, Bool.or_right_comm _ _ _, Bool.or_right_comm _ _ _, Bool.or_right_comm _ _ _,
    Bool.or_right_comm _ _ _, least_comm _ _ _ _ _ _, Bool.or_right_comm _ _ _, least_comm _ _ _ _ _ _, Bool.or_right_comm _ _ _, least_comm _ _ _ _ _ _, Bool.or_right_comm _ _ _, greatest_comm _ _ _ _ _, Bool.or_right_comm _ _ _, least_comm _ _ _ _ _ _⟩
theorem act_perm {l m : List (List UInt8)} (h : l.Perm m) (c : Own.Ctl) : l.foldl actL c = m.foldl actL c := by
  induction h generalizing c with
  | nil => rfl
  | cons x _ ih => exact ih _
  | swap x y l => simp only [List.foldl_cons]; unfold actL; rw [act_comm]
  | trans _ _ ih1 ih2 => rw [ih1, ih2]
/-- No less strict: what is told stays told, numbers only sink (one rises). -/
structure Str (a b : Own.Ctl) : Prop where
  b0 : a.b0 = true → b.b0 = true
  b1 : a.b1 = true → b.b1 = true
  b2 : a.b2 = true → b.b2 = true
  b3 : a.b3 = true → b.b3 = true
  b4 : a.b4 = true → b.b4 = true
  b5 : a.b5 = true → b.b5 = true
  b6 : a.b6 = true → b.b6 = true
  b7 : a.b7 = true → b.b7 = true
  b8 : a.b8 = true → b.b8 = true
  b9 : a.b9 = true → b.b9 = true
  h0 : a.h0 = true → b.h0 = true ∧ b.n0 ≤ a.n0
  h1 : a.h1 = true → b.h1 = true ∧ b.n1 ≤ a.n1
  h2 : a.h2 = true → b.h2 = true ∧ b.n2 ≤ a.n2
  h3 : a.h3 = true → b.h3 = true ∧ a.n3 ≤ b.n3
  h4 : a.h4 = true → b.h4 = true ∧ b.n4 ≤ a.n4
theorem Str.refl (a : Own.Ctl) : Str a a := ⟨id, id, id, id, id, id, id, id, id, id, fun h => ⟨h, Int.le_refl _⟩, fun h => ⟨h, Int.le_refl _⟩, fun h => ⟨h, Int.le_refl _⟩, fun h => ⟨h, Int.le_refl _⟩, fun h => ⟨h, Int.le_refl _⟩⟩
theorem Str.trans {a b c : Own.Ctl} (h : Str a b) (k : Str b c) : Str a c :=
  ⟨fun x => k.b0 (h.b0 x), fun x => k.b1 (h.b1 x), fun x => k.b2 (h.b2 x), fun x => k.b3 (h.b3 x), fun x => k.b4 (h.b4 x), fun x => k.b5 (h.b5 x), fun x => k.b6 (h.b6 x), fun x => k.b7 (h.b7 x), fun x => k.b8 (h.b8 x), fun x => k.b9 (h.b9 x),
    fun x => ⟨(k.h0 (h.h0 x).1).1, Int.le_trans (k.h0 (h.h0 x).1).2 (h.h0 x).2⟩, fun x => ⟨(k.h1 (h.h1 x).1).1, Int.le_trans (k.h1 (h.h1 x).1).2 (h.h1 x).2⟩, fun x => ⟨(k.h2 (h.h2 x).1).1, Int.le_trans (k.h2 (h.h2 x).1).2 (h.h2 x).2⟩, fun x => ⟨(k.h3 (h.h3 x).1).1, Int.le_trans (h.h3 x).2 (k.h3 (h.h3 x).1).2⟩, fun x => ⟨(k.h4 (h.h4 x).1).1, Int.le_trans (k.h4 (h.h4 x).1).2 (h.h4 x).2⟩⟩
theorem or_told {a p : Bool} : a = true → (a || p) = true := fun h => by rw [h]; rfl
theorem least_told {p : Bool} {h : Bool} {x n : Int} (e : h = true) : (h || p) = true ∧ (if p = true then Own.leastOf h x n else x) ≤ x := by
  subst e
  refine ⟨rfl, ?_⟩
  cases p <;> simp [Own.leastOf]
  split <;> omega
theorem greatest_told {p : Bool} {h : Bool} {x n : Int} (e : h = true) : (h || p) = true ∧ x ≤ (if p = true then Own.greatestOf x n else x) := by
  subst e
  refine ⟨rfl, ?_⟩
  cases p <;> simp [Own.greatestOf]
  split <;> omega
theorem Str.act (c : Own.Ctl) (l : List UInt8) : Str c (actL c l) :=
  ⟨or_told, or_told, or_told, or_told, or_told, or_told, or_told, or_told, or_told, or_told, least_told, least_told, least_told, greatest_told, least_told⟩
theorem Str.fold : ∀ (m : List (List UInt8)) (c : Own.Ctl), Str c (m.foldl actL c)
  | [], c => Str.refl c
  | x :: t, c => (Str.act c x).trans (Str.fold t _)
theorem Str.fin {a b : Own.Ctl} (h : Str a b) : Str a.fin b.fin := ⟨h.b0, h.b1, h.b2, h.b3, h.b4, h.b5, h.b6, h.b7, h.b8, h.b9, h.h0, h.h1, h.h2, h.h3, h.h4⟩
theorem splits_append (v w : List ByteArray) : splits (v ++ w) = splits v ++ splits w := by unfold splits; rw [List.flatMap_append]
theorem ctl_more (v w : List ByteArray) : Str (ctlOf v) (ctlOf (v ++ w)) := by
  unfold ctlOf
  rw [splits_append, List.foldl_append]
  exact (Str.fold _ _).fin
theorem ctl_turn (v w : List ByteArray) : ctlOf (v ++ w) = ctlOf (w ++ v) := by
  unfold ctlOf
  rw [splits_append, splits_append, act_perm List.perm_append_comm]
theorem Trim_ok (s : ByteArray) (h : s.size ≤ 9223372036854775807) : head_Trim.f s = some (mk (tr (B s))) := by
  unfold head_Trim.f strings_Trim.f
  rw [if_pos h, if_pos rfl]
  rfl
theorem piece_loop (s : ByteArray) (hs : s.size ≤ 1000000000) : ∀ (n : Nat) (l : List UInt8) (i : Nat) (q : Bool), l.length ≤ n → (B s).drop i = l → i ≤ s.size →
    Ev (fun k => head_piece.l0 k s q (i : Int)) ((i + pc q l : Nat) : Int)
  | n, [], i, q, hn, hl, hi => by
    have h1 := end_drop hl
    have e : i = s.size := by omega
    refine Ev.step (fun _ => head_piece.l0.eq_2 ..) (Ev.neg (by omega) (Ev.konst ?_))
    simp [pc, e]
  | 0, c :: t, i, q, hn, hl, hi => by simp at hn
  | n + 1, c :: t, i, q, hn, hl, hi => by
    obtain ⟨h1, h2, h3⟩ := bt_drop hl
    simp only [List.length_cons] at hn
    have w1 : wrap64 ((i : Int) + 1) = ((i + 1 : Nat) : Int) := by rw [wrap_id (by omega) (by omega)]; omega
    have w2 : wrap64 (((i + 1 : Nat) : Int) + 1) = ((i + 2 : Nat) : Int) := by rw [wrap_id (by omega) (by omega)]; omega
    refine Ev.step (fun _ => head_piece.l0.eq_2 ..) (Ev.pos (by omega) (Ev.pos (by omega) ?_))
    rw [h1, w1, pc_cons]
    by_cases e1 : c = 34
    · rw [if_pos e1]
      refine Ev.pos ((u8_eq c 34 (by omega)).2 e1) ?_
      have := piece_loop s hs n t (i + 1) (!q) (by omega) h3 (by omega)
      rw [show i + (1 + pc (!q) t) = i + 1 + pc (!q) t from by omega]
      exact this
    · rw [if_neg e1]
      refine Ev.neg (fun h => e1 ((u8_eq c 34 (by omega)).1 h)) ?_
      have tail : ∀ b, ¬ b = true → (¬ (q = true ∧ c = 92)) → Ev (fun k => head_piece.j1 k s q (i : Int) b) ((i + (if c = 44 ∧ q = false then 0 else 1 + pc q t) : Nat) : Int) := by
        intro b hb hq
        refine Ev.step (fun _ => head_piece.j1.eq_2 ..) (Ev.neg hb (Ev.pos (by omega) (Ev.pos (by omega) ?_)))
        rw [h1, w1]
        by_cases e3 : c = 44
        · refine Ev.pos ((u8_eq c 44 (by omega)).2 e3) ?_
          cases q with
          | true =>
            rw [if_neg (by simp)]
            refine Ev.pos rfl ?_
            have := piece_loop s hs n t (i + 1) true (by omega) h3 (by omega)
            rw [show i + (1 + pc true t) = i + 1 + pc true t from by omega]
            exact this
          | false =>
            rw [if_pos ⟨e3, rfl⟩]
            exact Ev.neg (by simp) (Ev.now _)
        · rw [if_neg (fun h => e3 h.1)]
          refine Ev.neg (fun h => e3 ((u8_eq c 44 (by omega)).1 h)) ?_
          have := piece_loop s hs n t (i + 1) q (by omega) h3 (by omega)
          rw [show i + (1 + pc q t) = i + 1 + pc q t from by omega]
          exact this
      cases q with
      | false =>
        rw [if_neg (by simp)]
        exact Ev.neg (by simp) (tail false (by simp) (by simp))
      | true =>
        refine Ev.pos rfl ?_
        by_cases e2 : c = 92
        · rw [if_pos ⟨rfl, e2⟩, show ((c.toNat : Int) == 92) = true from by simpa using (u8_eq c 92 (by omega)).2 e2]
          refine Ev.step (fun _ => head_piece.j1.eq_2 ..) (Ev.pos rfl ?_)
          rw [w1, w2]
          cases t with
          | nil =>
            have h4 := end_drop h3
            refine Ev.step (fun _ => head_piece.l0.eq_2 ..) (Ev.neg (by omega) (Ev.konst ?_))
            simp; omega
          | cons d u =>
            obtain ⟨_, h5, h6⟩ := bt_drop h3
            simp only [List.length_cons] at hn
            have := piece_loop s hs n u (i + 2) true (by omega) h6 (by omega)
            show Ev _ ((i + (2 + pc true u) : Nat) : Int)
            rw [show i + (2 + pc true u) = i + 2 + pc true u from by omega]
            exact this
        · rw [if_neg (fun h => e2 h.2), show ((c.toNat : Int) == 92) = false from by simpa using fun h => e2 ((u8_eq c 92 (by omega)).1 h)]
          exact tail false (by simp) (fun h => e2 h.2)
theorem piece_ok (s : ByteArray) (hs : s.size ≤ 1000000000) : Ev (fun k => head_piece.f k s) ((pc false (B s) : Nat) : Int) := by
  unfold head_piece.f
  have := piece_loop s hs (B s).length (B s) 0 false (Nat.le_refl _) rfl (by omega)
  rw [Nat.zero_add] at this
  exact this
theorem mn_nat (a b : Nat) : mn (a : Int) (b : Int) = ((min a b : Nat) : Int) := by
  unfold mn; split <;> omega
/-- One value is gone through; what follows is told. -/
theorem split_one (v : List ByteArray) (m : Int) (j : Int) {r : List ByteArray} (bd : Nat) (hbd : bd ≤ 1000000000) : ∀ (n : Nat) (s : ByteArray) (acc : List ByteArray), s.size ≤ n → s.size ≤ 1000000000 → acc.length + s.size + 1 ≤ bd →
    Ev (fun k => head_Split.l0 k (acc ++ (pieces (B s)).map mk) v m (wrap64 (j + 1))) r → Ev (fun k => head_Split.l1 k acc s v m j) r
  | n, s, acc, hn, hs, ha, hr => by
    refine Ev.step (fun _ => head_Split.l1.eq_2 ..) ?_
    by_cases he : B s = []
    · rw [he, pieces_nil] at hr
      simp only [List.map_nil, List.append_nil] at hr
      exact Ev.pos (by rw [toList_B, he]) hr
    · have hne : ¬ s.toList = [] := by rw [toList_B]; exact he
      have hp := pc_le (B s) false
      rw [← size_B] at hp
      have hpos : 0 < s.size := by
        rw [size_B]
        cases h : B s with
        | nil => exact absurd h he
        | cons _ _ => simp
      have w1 : wrap64 (((pc false (B s) : Nat) : Int) + 1) = ((pc false (B s) + 1 : Nat) : Int) := by rw [wrap_id (by omega) (by omega)]; omega
      have e1 : ((mn ((pc false (B s) + 1 : Nat) : Int) (s.size : Int)) : Int).toNat = min (pc false (B s) + 1) s.size := by rw [mn_nat]; exact Int.toNat_natCast _
      have h0 : 0 ≤ mn ((pc false (B s) + 1 : Nat) : Int) (s.size : Int) := by rw [mn_nat]; omega
      have h1 : mn ((pc false (B s) + 1 : Nat) : Int) (s.size : Int) ≤ (s.size : Int) := by rw [mn_nat]; omega
      have cut := pieces_cut (B s)
      have eT : head_Trim.f (s.extract 0 ((pc false (B s) : Nat) : Int).toNat) = some (mk (tr ((B s).take (pc false (B s))))) := by
        rw [Trim_ok _ (by rw [size_B, B_to]; have := List.length_take_le (pc false (B s)) (B s); simp only [Int.toNat_natCast] at *; rw [← size_B] at *; omega), B_to, Int.toNat_natCast]
      have hrest : B (s.extract (min (pc false (B s) + 1) s.size) s.size) = (B s).drop (min (pc false (B s) + 1) (B s).length) := by rw [B_from, ← size_B]
      have hsz : (s.extract (min (pc false (B s) + 1) s.size) s.size).size = s.size - min (pc false (B s) + 1) s.size := by rw [size_B, B_from, List.length_drop, ← size_B]
      refine Ev.neg hne (Ev.bind (piece_ok s hs) (Ev.pos (by omega) (Ev.pos (by omega) (Ev.bnd eT ?_))))
      rw [w1, e1]
      obtain ⟨n, rfl⟩ : ∃ m, n = m + 1 := ⟨n - 1, by omega⟩
      by_cases hz : tr ((B s).take (pc false (B s))) = []
      · refine Ev.pos (by rw [toList_B, B_mk, hz]) (Ev.pos h0 (Ev.pos h1 ?_))
        refine split_one v m j bd hbd n _ acc (by rw [hsz]; omega) (by rw [hsz]; omega) (by rw [hsz]; omega) ?_
        rw [hrest]
        rw [cut, one, if_pos hz, List.nil_append] at hr
        exact hr
      · refine Ev.neg (by rw [toList_B, B_mk]; exact hz) (Ev.pos (by omega) (Ev.pos h0 (Ev.pos h1 ?_)))
        refine split_one v m j bd hbd n _ _ (by rw [hsz]; omega) (by rw [hsz]; omega) (by rw [hsz]; simp only [List.length_append, List.length_cons, List.length_nil]; omega) ?_
        rw [hrest]
        rw [cut, one, if_neg hz] at hr
        simpa using hr
theorem split_loop (v : List ByteArray) (hv : v.length ≤ 1000000) (hb : ∀ s ∈ v, s.size ≤ 1100000) : ∀ (l : List ByteArray) (i : Nat) (acc : List ByteArray), v.drop i = l → acc.length ≤ 1100001 * i → i + l.length ≤ 400 →
    Ev (fun k => head_Split.l0 k acc v (v.length : Int) (i : Int)) (acc ++ (splits l).map mk)
  | [], i, acc, hl, ha, hi => by
    have := drop_nil hl
    refine Ev.step (fun _ => head_Split.l0.eq_2 ..) (Ev.neg (by omega) (Ev.konst ?_))
    simp [splits]
  | s :: t, i, acc, hl, ha, hi => by
    obtain ⟨h1, h2, h3⟩ := drop_cons hl
    have hs := hb s (List.mem_of_getElem? h2)
    have hp := pieces_len (B s).length (B s) (Nat.le_refl _)
    rw [← size_B] at hp
    simp only [List.length_cons] at hi
    refine Ev.step (fun _ => head_Split.l0.eq_2 ..) (Ev.pos (by omega) (Ev.pos (by omega) (Ev.pos (by omega) ?_)))
    rw [rdOf_of h2]
    refine split_one v _ _ 1000000000 (Nat.le_refl _) s.size s acc (Nat.le_refl _) (by omega) (by omega) ?_
    rw [wrap_id (by omega) (by omega), cast_succ]
    have hl' : (acc ++ (pieces (B s)).map mk).length ≤ 1100001 * (i + 1) := by rw [List.length_append, List.length_map]; omega
    have := split_loop v hv hb t (i + 1) _ h3 hl' (by omega)
    simpa [splits] using this
theorem Lower_ok {s : ByteArray} (h : s.size ≤ 9223372036854775807) : head_Lower.f s = some (Own.low s) := by
  unfold head_Lower.f; rw [if_pos h]
theorem mn_le (a b : Int) : mn a b ≤ b ∧ mn a b ≤ a := by unfold mn; split <;> omega
theorem mx_pos {a : Int} (h : 0 ≤ a) : mx a 0 = a := by unfold mx; split <;> omega
theorem Clip_ok {a : Int} (h : 0 ≤ a) : bits_Clip.f a = some (mn a 2147483648) := by unfold bits_Clip.f; rw [mx_pos h]
theorem Sec_loop (s : ByteArray) (hs : s.size ≤ 1000000000) : ∀ (t : List UInt8) (i : Nat) (n : Int), (B s).drop i = t → 0 ≤ n → n ≤ 2147483648 → Ev (fun k => cc_Seconds.l0 k s n (s.size : Int) (i : Int)) (match secVal t n with | some m => (m, true) | none => (0, false))
  | [], i, n, h, h0, h1 => by
    have := end_drop h
    exact Ev.step (fun _ => cc_Seconds.l0.eq_2 ..) (Ev.neg (by omega) (Ev.now _))
  | c :: t, i, n, h, h0, h1 => by
    obtain ⟨e1, e2, e3⟩ := bt_drop h
    have u := u8_lt c
    refine Ev.step (fun _ => cc_Seconds.l0.eq_2 ..) (Ev.pos (by omega) (Ev.pos (by omega) (Ev.pos (by omega) ?_)))
    rw [e1]
    unfold secVal
    by_cases a1 : (c.toNat : Int) < 48
    · rw [if_neg (by omega)]; exact Ev.pos a1 (Ev.now _)
    · refine Ev.neg a1 ?_
      by_cases a2 : (c.toNat : Int) > 57
      · rw [if_neg (by omega)]; exact Ev.pos a2 (Ev.now _)
      · refine Ev.neg a2 ?_
        rw [if_pos (by omega), wrap_id (x := n * 10) (by omega) (by omega), Int.emod_eq_of_lt (by omega) (by omega), wrap_id (x := n * 10 + _) (by omega) (by omega), wrap_id (x := (i : Int) + 1) (by omega) (by omega), cast_succ]
        have q := mn_le (n * 10 + ((c.toNat : Int) - 48)) 2147483648
        exact Ev.bnd (Clip_ok (by omega)) (Sec_loop s hs t (i + 1) _ e3 (by unfold mn; split <;> omega) q.1)
theorem Sec_ok (s : ByteArray) (hs : s.size ≤ 1000000000) : Ev (fun k => cc_Seconds.f k s) (secsOf (B s)) := by
  unfold cc_Seconds.f secsOf
  rw [toList_B]
  by_cases h : B s = []
  · rw [if_pos (Or.inl h)]
    exact Ev.pos h (Ev.step (fun _ => cc_Seconds.j0.eq_2 ..) (Ev.pos rfl (Ev.now _)))
  · refine Ev.neg h ?_
    rw [size_B]
    by_cases h2 : 4000 < (B s).length
    · rw [if_pos (Or.inr h2), decide_eq_true (by omega)]
      exact Ev.step (fun _ => cc_Seconds.j0.eq_2 ..) (Ev.pos rfl (Ev.now _))
    · rw [if_neg (by rintro (q | q); exact h q; exact h2 q), decide_eq_false (by omega)]
      exact Ev.step (fun _ => cc_Seconds.j0.eq_2 ..) (Ev.neg (by simp) (Sec_loop s hs (B s) 0 0 rfl (by omega) (by omega)))
theorem bt_at {s : ByteArray} {i : Nat} (h : i < s.size) : ∃ c, (B s)[i]? = some c ∧ bt s (i : Int) = (c.toNat : Int) := by
  have hl : i < (B s).length := by rw [← size_B]; exact h
  exact ⟨_, List.getElem?_eq_getElem hl, bt_of (List.getElem?_eq_getElem hl)⟩
theorem Unq_ok (s : ByteArray) (hs : s.size ≤ 1000000000) : cc_unquoted.f s = some (mk (unq (B s))) := by
  unfold cc_unquoted.f unq
  rw [← size_B]
  by_cases h : 2 ≤ s.size
  · rw [if_pos (by omega), if_pos (by omega)]
    obtain ⟨c, c1, c2⟩ := bt_at (s := s) (i := 0) (by omega)
    obtain ⟨d, d1, d2⟩ := bt_at (s := s) (i := s.size - 1) (by omega)
    have hw : wrap64 ((s.size : Int) - 1) = ((s.size - 1 : Nat) : Int) := by rw [wrap_id (by omega) (by omega)]; omega
    rw [hw, d2, show bt s 0 = (c.toNat : Int) from c2]
    by_cases a1 : (c.toNat : Int) = 34
    · rw [if_pos a1, if_pos (by omega), if_pos (by omega)]
      have b1 : c = 34 := (u8_eq c 34 (by omega)).1 a1
      by_cases a2 : (d.toNat : Int) = 34
      · have b2 : d = 34 := (u8_eq d 34 (by omega)).1 a2
        rw [if_pos a2, if_pos (by omega), if_pos (by omega), if_pos ⟨h, by rw [c1, b1], by rw [d1, b2]⟩]
        congr 1
        apply B_inj
        rw [B_extract, B_mk]
        congr 1
      · rw [if_neg a2, if_neg (fun q => a2 (by have := q.2.2; rw [d1] at this; rw [Option.some.inj this]; rfl)), mk_B]
    · rw [if_neg a1, if_neg (fun q => a1 (by have := q.2.1; rw [c1] at this; rw [Option.some.inj this]; rfl)), mk_B]
  · rw [if_neg (by omega), if_neg (fun q => h q.1), mk_B]
theorem Cut_ok (s : ByteArray) (hs : s.size ≤ 1000000000) : strings_Cut.f s (⟨#[61]⟩ : ByteArray) = some (mk (cutL (B s)).1, mk (cutL (B s)).2.1, (cutL (B s)).2.2) := by
  unfold strings_Cut.f
  rw [if_pos (by omega)]
  show some (strings_Cut.val s 61) = _
  congr 1
  obtain ⟨h0, h1⟩ := cutL_idx (B s)
  unfold strings_Cut.val
  show (if Lib.indexByte (B s) 61 ≥ 0 then _ else _) = _
  by_cases h : Lib.indexByte (B s) 61 ≥ 0
  · rw [if_pos h] at h1 ⊢
    rw [h1]
    refine Prod.ext (B_inj ?_) (Prod.ext (B_inj ?_) rfl)
    · show B (s.extract 0 _) = _; rw [B_to]; rfl
    · show B (s.extract _ s.size) = _; rw [B_from]; rfl
  · rw [if_neg h] at h1 ⊢
    rw [h1, mk_B]; rfl
theorem unq_len (l : List UInt8) : (unq l).length ≤ l.length := by
  unfold unq
  split
  · rw [List.length_take, List.length_drop]; omega
  · omega
theorem step_ok (c : Own.Ctl) (p : List UInt8) (hp : p.length ≤ 1000000000) : Ev (fun k => cc_Parse.step k c (mk p)) (actL c p) := by
  obtain ⟨h1, h2, h3, h4⟩ := cutL_len p
  have t1 := tr_len (cutL p).1
  have t2 := tr_len (cutL p).2.1
  have t3 := unq_len (tr (cutL p).2.1)
  have z : ∀ l : List UInt8, (mk l).size = l.length := fun l => size_B (mk l)
  unfold cc_Parse.step
  refine Ev.bnd (Cut_ok (mk p) (by rw [z]; omega)) ?_
  rw [B_mk]
  refine Ev.bnd (Trim_ok _ (by show (mk _).size ≤ _; rw [z]; omega)) (Ev.bnd (Lower_ok (by show (mk _).size ≤ _; rw [z]; show (tr (cutL p).1).length ≤ _; omega)) (Ev.bnd (Trim_ok _ (by show (mk _).size ≤ _; rw [z]; omega)) (Ev.bnd (Unq_ok _ (by rw [z]; show (tr (cutL p).2.1).length ≤ _; omega)) ?_)))
  refine Ev.bind (Sec_ok _ (by rw [z]; show (unq (tr (cutL p).2.1)).length ≤ _; omega)) ?_
  exact Ev.now _
theorem steps_ok : ∀ (ps : List (List UInt8)) (c : Own.Ctl), (∀ p ∈ ps, p.length ≤ 1000000000) → Ev (fun k => cc_Parse.steps k (ps.map mk) c) (ps.foldl actL c)
  | [], c, _ => Ev.now _
  | p :: t, c, h => Ev.bind (step_ok c p (h p List.mem_cons_self)) (steps_ok t _ (fun q hq => h q (List.mem_cons_of_mem _ hq)))
theorem Parse_ok (v : List ByteArray) (hv : v.length ≤ 400) (hb : ∀ s ∈ v, s.size ≤ 1100000) : Ev (fun k => cc_Parse.f k v) (ctlOf v).tup := by
  have hS : Ev (fun k => head_Split.f k v) ((splits v).map mk) := by
    have := split_loop v (by omega) (fun s hs => by have := hb s hs; omega) v 0 [] rfl (by simp) (by omega)
    rw [List.nil_append] at this
    exact this
  unfold cc_Parse.f
  refine Ev.bind hS (Ev.bind (steps_ok (splits v) _ (fun p hp => by have := splits_small v hb p hp; omega)) ?_)
  exact Ev.now _
theorem All_ok {l : List S35} (hl : l.length < 4398046511104) (ho : okL l) {n : ByteArray} (hn : n.size ≤ 9223372036854775807) : Ev (fun k => head_All.f k l n) (allOf l n) :=
  Ev.of (fun k => head_All.mono _ _ k) (head_All_is l n hl (okS_of hn) (fun x hx => okS_of (ho x hx).1))
theorem ccR_ok (v : List ByteArray) (hv : v.length ≤ 400) (hb : ∀ s ∈ v, s.size ≤ 1100000) : Ev (fun k => ccR k v) (ctlOf v) := by
  have hS : Ev (fun k => head_Split.f k v) ((splits v).map mk) := by
    have := split_loop v (by omega) (fun s hs => by have := hb s hs; omega) v 0 [] rfl (by simp) (by omega)
    rw [List.nil_append] at this
    exact this
  unfold ccR
  refine Ev.bind hS (Ev.bind (steps_ok (splits v) _ (fun p hp => by have := splits_small v hb p hp; omega)) ?_)
  exact Ev.now _
/-- Lines of which a law speaks: few, and what has a name is short. -/
structure LinesOk (l : List S35) : Prop where
  len : l.length ≤ 400
  okL : okL l
  val : ∀ x ∈ l, 1 ≤ x.f0.size → x.f1.size ≤ 1100000
theorem same_size {a b : ByteArray} (h : Own.same a b = true) : a.size = b.size := by
  have := congrArg ByteArray.size ((same_iff a b).1 h)
  rwa [low_size, low_size] at this
theorem LinesOk.all {l : List S35} (h : LinesOk l) (n : ByteArray) (hn : 1 ≤ n.size) : (allOf l n).length ≤ 400 ∧ ∀ s ∈ allOf l n, s.size ≤ 1100000 := by
  refine ⟨Nat.le_trans (allOf_len l n) h.len, fun s hs => ?_⟩
  unfold allOf at hs
  obtain ⟨x, hx, rfl⟩ := List.mem_map.1 hs
  have hx := List.mem_filter.1 hx
  exact h.val x hx.1 (by have := same_size hx.2; omega)
theorem LinesOk.of {l : List S35} (g : l.length ≤ maxLen ∧ ∀ x ∈ l, x.f0.size ≤ maxLen ∧ x.f1.size ≤ maxLen) (h : l.length ≤ 80 ∧ ∀ x ∈ l, 1 ≤ x.f0.size → x.f1.size ≤ 20000) : LinesOk l :=
  ⟨by omega, fun x hx => g.2 x hx, fun x hx h1 => by have := h.2 x hx h1; omega⟩
theorem sum_lines : ∀ (l : List S35), l.length ≤ (l.map fun y => ((y.f0.size + 1) + (y.f1.size + 1) + 1)).sum ∧ ∀ x ∈ l, x.f0.size + x.f1.size + 3 ≤ (l.map fun y => ((y.f0.size + 1) + (y.f1.size + 1) + 1)).sum
  | [] => by simp
  | x :: t => by
    obtain ⟨h1, h2⟩ := sum_lines t
    simp only [List.map_cons, List.sum_cons, List.length_cons]
    refine ⟨by omega, fun s hs => ?_⟩
    rcases List.mem_cons.1 hs with rfl | hs
    · omega
    · have := h2 s hs; omega
def ccName : ByteArray := ⟨#[67, 97, 99, 104, 101, 45, 67, 111, 110, 116, 114, 111, 108]⟩
def prName : ByteArray := ⟨#[80, 114, 97, 103, 109, 97]⟩
def storedOf (l : List S35) : Own.Ctl := ctlOf (allOf l ccName)
theorem All_cc {l : List S35} (h : LinesOk l) : Ev (fun k => head_All.f k l (⟨#[67, 97, 99, 104, 101, 45, 67, 111, 110, 116, 114, 111, 108]⟩ : ByteArray)) (allOf l ccName) :=
  All_ok (by have := h.len; omega) h.okL (n := ccName) (by show 13 ≤ _; omega)
/-- A text cut at a byte. -/
def spl (c : UInt8) : List UInt8 → List (List UInt8)
  | [] => [[]]
  | b :: t => if b = c then [] :: spl c t else (b :: (spl c t).headD []) :: (spl c t).tail
theorem spl_ne (c : UInt8) (l : List UInt8) : spl c l ≠ [] := by
  cases l with
  | nil => simp [spl]
  | cons b t => unfold spl; split <;> simp
theorem spl_whole (c : UInt8) : ∀ p : List UInt8, c ∉ p → spl c p = [p]
  | [], _ => rfl
  | b :: t, h => by
    have hb : b ≠ c := fun e => h (by simp [e])
    rw [spl, if_neg hb, spl_whole c t (fun e => h (by simp [e]))]; rfl
theorem spl_cut (c : UInt8) (r : List UInt8) : ∀ p : List UInt8, c ∉ p → spl c (p ++ c :: r) = p :: spl c r
  | [], _ => by simp [spl]
  | b :: t, h => by
    have hb : b ≠ c := fun e => h (by simp [e])
    rw [List.cons_append, spl, if_neg hb, spl_cut c r t (fun e => h (by simp [e]))]; rfl
theorem spl_one (c : UInt8) : ∀ l p : List UInt8, spl c l = [p] → l = p ∧ c ∉ p
  | [], p, h => by simp [spl] at h; subst h; simp
  | b :: t, p, h => by
    unfold spl at h
    split at h
    · injection h with h1 h2; exact absurd h2 (spl_ne c t)
    · rename_i hb
      injection h with h1 h2
      have ht : spl c t = [(spl c t).headD []] := by
        cases hs : spl c t with
        | nil => exact absurd hs (spl_ne c t)
        | cons a r => rw [hs] at h2; simp at h2; rw [h2]; rfl
      obtain ⟨e1, e2⟩ := spl_one c t _ ht
      rw [← h1]
      refine ⟨by rw [← e1], ?_⟩
      intro e
      rcases List.mem_cons.1 e with q | q
      · exact hb q.symm
      · exact e2 q
theorem spl_more (c : UInt8) : ∀ l p q r, spl c l = p :: q :: r → ∃ m, l = p ++ c :: m ∧ c ∉ p ∧ spl c m = q :: r
  | [], p, q, r, h => by simp [spl] at h
  | b :: t, p, q, r, h => by
    unfold spl at h
    split at h
    · rename_i hb
      injection h with h1 h2
      exact ⟨t, by rw [← h1, hb]; rfl, by rw [← h1]; simp, h2⟩
    · rename_i hb
      injection h with h1 h2
      have ht : spl c t = (spl c t).headD [] :: q :: r := by
        cases hs : spl c t with
        | nil => exact absurd hs (spl_ne c t)
        | cons a r' => rw [hs] at h2; simp at h2; rw [h2]; rfl
      obtain ⟨m, e1, e2, e3⟩ := spl_more c t _ q r ht
      refine ⟨m, by rw [← h1, List.cons_append, ← e1], ?_, e3⟩
      rw [← h1]
      intro e
      rcases List.mem_cons.1 e with q | q
      · exact hb q.symm
      · exact e2 q
theorem spl3 {c : UInt8} {l p0 p1 p2 : List UInt8} (h : spl c l = [p0, p1, p2]) : l = p0 ++ c :: (p1 ++ c :: p2) ∧ c ∉ p0 ∧ c ∉ p1 ∧ c ∉ p2 := by
  obtain ⟨m, rfl, h0, h⟩ := spl_more c _ _ _ _ h
  obtain ⟨m, rfl, h1, h⟩ := spl_more c _ _ _ _ h
  obtain ⟨rfl, h2⟩ := spl_one c _ _ h
  exact ⟨rfl, h0, h1, h2⟩
theorem spl3' {c : UInt8} {p0 p1 p2 : List UInt8} (h0 : c ∉ p0) (h1 : c ∉ p1) (h2 : c ∉ p2) : spl c (p0 ++ c :: (p1 ++ c :: p2)) = [p0, p1, p2] := by
  rw [spl_cut c _ _ h0, spl_cut c _ _ h1, spl_whole c _ h2]
theorem spl4 {c : UInt8} {l p0 p1 p2 p3 : List UInt8} (h : spl c l = [p0, p1, p2, p3]) : l = p0 ++ c :: (p1 ++ c :: (p2 ++ c :: p3)) ∧ c ∉ p0 ∧ c ∉ p1 ∧ c ∉ p2 ∧ c ∉ p3 := by
  obtain ⟨m, rfl, h0, h⟩ := spl_more c _ _ _ _ h
  obtain ⟨rfl, q⟩ := spl3 h
  exact ⟨rfl, h0, q⟩
theorem spl4' {c : UInt8} {p0 p1 p2 p3 : List UInt8} (h0 : c ∉ p0) (h1 : c ∉ p1) (h2 : c ∉ p2) (h3 : c ∉ p3) : spl c (p0 ++ c :: (p1 ++ c :: (p2 ++ c :: p3))) = [p0, p1, p2, p3] := by
  rw [spl_cut c _ _ h0, spl3' h1 h2 h3]
theorem spl6 {c : UInt8} {l p0 p1 p2 p3 p4 p5 : List UInt8} (h : spl c l = [p0, p1, p2, p3, p4, p5]) : l = p0 ++ c :: (p1 ++ c :: (p2 ++ c :: (p3 ++ c :: (p4 ++ c :: p5)))) ∧ c ∉ p0 ∧ c ∉ p1 ∧ c ∉ p2 ∧ c ∉ p3 ∧ c ∉ p4 ∧ c ∉ p5 := by
  obtain ⟨m, rfl, h0, h⟩ := spl_more c _ _ _ _ h
  obtain ⟨m, rfl, h1, h⟩ := spl_more c _ _ _ _ h
  obtain ⟨rfl, q⟩ := spl4 h
  exact ⟨rfl, h0, h1, q⟩
theorem spl6' {c : UInt8} {p0 p1 p2 p3 p4 p5 : List UInt8} (h0 : c ∉ p0) (h1 : c ∉ p1) (h2 : c ∉ p2) (h3 : c ∉ p3) (h4 : c ∉ p4) (h5 : c ∉ p5) : spl c (p0 ++ c :: (p1 ++ c :: (p2 ++ c :: (p3 ++ c :: (p4 ++ c :: p5))))) = [p0, p1, p2, p3, p4, p5] := by
  rw [spl_cut c _ _ h0, spl_cut c _ _ h1, spl4' h2 h3 h4 h5]
theorem spl_hd (c : UInt8) : ∀ (p r : List UInt8), c ∉ p → (spl c (p ++ c :: r)).head? = some p := fun p r h => by rw [spl_cut c r p h]; rfl
theorem splK_cons (c b : UInt8) (h : b ≠ c) : ∀ (k : Nat) (t : List UInt8), Lib.splitK [c] 0 k (b :: t) = (b :: (Lib.splitK [c] 0 k t).headD []) :: (Lib.splitK [c] 0 k t).tail
  | 0, t => rfl
  | k + 1, t => by
    have hp : ([c] : List UInt8).isPrefixOf (b :: t) = false := by simp [List.isPrefixOf, Ne.symm h]
    have hix : Lib.index (b :: t) [c] = if Lib.index t [c] == -1 then -1 else Lib.index t [c] + 1 := by rw [Lib.index, hp]; simp
    have hge := Lib.index_ge t [c]
    unfold Lib.splitK
    rw [hix]
    by_cases hm : Lib.index t [c] = -1
    · simp [hm]
    · have e1 : (Lib.index t [c] == -1) = false := by simpa using hm
      have e2 : (Lib.index t [c] + 1 == -1) = false := by simp; omega
      obtain ⟨j, hj⟩ : ∃ j : Nat, Lib.index t [c] = j := ⟨(Lib.index t [c]).toNat, by omega⟩
      rw [e1]
      simp only [Bool.false_eq_true, if_false]
      rw [e2]
      simp only [Bool.false_eq_true, if_false, hj, List.headD_cons, List.tail_cons, List.length_singleton]
      have e3 : ((j : Int) + 1).toNat = j + 1 := by omega
      rw [e3, Int.toNat_natCast]
      rfl
theorem splK_eq (c : UInt8) : ∀ l : List UInt8, Lib.splitK [c] 0 (Lib.count l [c]) l = spl c l
  | [] => by
    have : Lib.index [] [c] = -1 := rfl
    rw [Lib.count_miss this]; rfl
  | b :: t => by
    by_cases h : b = c
    · subst h
      have hix : Lib.index (b :: t) [b] = 0 := by rw [Lib.index]; simp [List.isPrefixOf]
      rw [Lib.count_cons_eq, Nat.add_comm, Lib.splitK, hix, spl, if_pos rfl, ← splK_eq b t]
      rfl
    · rw [Lib.count_cons_ne b c t h, splK_cons c b h, splK_eq c t, spl, if_neg h]
theorem splB_eq (c : UInt8) (s : ByteArray) : Lib.splitB (⟨#[c]⟩ : ByteArray) 0 (Lib.countB s (⟨#[c]⟩ : ByteArray)) s = (spl c (B s)).map mk := by
  have h := Lib.splitB_data (⟨#[c]⟩ : ByteArray) 0 (Lib.countB s (⟨#[c]⟩ : ByteArray)) s
  have e : Lib.splitK [c] 0 (Lib.countB s (⟨#[c]⟩ : ByteArray)) s.data.toList = spl c (B s) := splK_eq c (B s)
  rw [← e]
  have h2 : ∀ l : List ByteArray, l = (l.map (·.data.toList)).map mk := fun l => by
    rw [List.map_map]; simp [Function.comp_def, mk]
  rw [h2 (Lib.splitB _ _ _ _), h]
theorem mk_size (l : List UInt8) : (mk l).size = l.length := size_B (mk l)
def numV : List UInt8 → Int → Int
  | [], n => n
  | c :: t, n => if (c.toNat : Int) < 48 then -1 else if (c.toNat : Int) > 57 then -1 else numV t (n * 10 + ((c.toNat : Int) - 48))
/-- So many digits, as a number; -1: they are none. -/
def num (l : List UInt8) (w : Nat) : Int := if l.length = w then numV l 0 else -1
theorem numV_facts : ∀ (t : List UInt8) (n : Int), 0 ≤ n → 0 ≤ numV t n → (∀ c ∈ t, 48 ≤ c.toNat ∧ c.toNat ≤ 57) ∧ numV t n < (n + 1) * 10 ^ t.length
  | [], n, h0, h => by simp [numV]; omega
  | c :: t, n, h0, h => by
    unfold numV at h ⊢
    by_cases a : (c.toNat : Int) < 48
    · rw [if_pos a] at h; omega
    · rw [if_neg a] at h ⊢
      by_cases b : (c.toNat : Int) > 57
      · rw [if_pos b] at h; omega
      · rw [if_neg b] at h ⊢
        obtain ⟨h1, h2⟩ := numV_facts t _ (by omega) h
        refine ⟨fun x hx => ?_, ?_⟩
        · rcases List.mem_cons.1 hx with rfl | q
          · omega
          · exact h1 x q
        · rw [List.length_cons, Int.pow_succ, Int.mul_comm (10 ^ t.length) 10, ← Int.mul_assoc]
          refine Int.lt_of_lt_of_le h2 (Int.mul_le_mul_of_nonneg_right (by omega) (Int.pow_nonneg (by omega)))
theorem num_facts {l : List UInt8} {w : Nat} (h : 0 ≤ num l w) : l.length = w ∧ (∀ c ∈ l, 48 ≤ c.toNat ∧ c.toNat ≤ 57) ∧ num l w < 10 ^ w := by
  unfold num at h ⊢
  by_cases e : l.length = w
  · rw [if_pos e] at h ⊢
    obtain ⟨a, b⟩ := numV_facts l 0 (by omega) h
    rw [e] at b
    exact ⟨e, a, by simpa using b⟩
  · rw [if_neg e] at h; omega
theorem digit_ne {l : List UInt8} (h : ∀ c ∈ l, 48 ≤ c.toNat ∧ c.toNat ≤ 57) (d : UInt8) (hd : d.toNat < 48 ∨ 57 < d.toNat) : d ∉ l := fun e => by
  have := h d e; omega
theorem num_ge (l : List UInt8) (w : Nat) : -1 ≤ num l w := by
  unfold num
  split
  · have : ∀ (t : List UInt8) (n : Int), 0 ≤ n → -1 ≤ numV t n := by
      intro t
      induction t with
      | nil => intro n h; simp [numV]; omega
      | cons c t ih =>
        intro n h
        unfold numV
        split
        · omega
        · split
          · omega
          · exact ih _ (by omega)
    exact this l 0 (by omega)
  · omega
theorem pow_small (n : Nat) (t : List UInt8) {x : Int} (h0 : 0 ≤ x) (h : (x + 1) * 10 ^ t.length ≤ 1000000000000000000) : x < 1000000000000000000 := by
  have : (0 : Int) < 10 ^ t.length := Int.pow_pos (by omega)
  have : x + 1 ≤ (x + 1) * 10 ^ t.length := by
    have := Int.mul_le_mul_of_nonneg_left (show (1 : Int) ≤ 10 ^ t.length by omega) (show 0 ≤ x + 1 by omega)
    omega
  omega
theorem ten_pow {w : Nat} (h : w ≤ 18) : (10 : Int) ^ w ≤ 1000000000000000000 := by
  have h1 := Nat.pow_le_pow_right (show 0 < 10 by omega) h
  have h2 : ((10 ^ w : Nat) : Int) = (10 : Int) ^ w := by rw [Int.natCast_pow]; rfl
  omega
theorem num_next {n d : Int} {t : List UInt8} {c : UInt8} (h : (n + 1) * 10 ^ (c :: t).length ≤ 1000000000000000000) (hd : d ≤ 9) : (n * 10 + d + 1) * 10 ^ t.length ≤ 1000000000000000000 := by
  refine Int.le_trans ?_ h
  rw [List.length_cons, Int.pow_succ, Int.mul_comm (10 ^ t.length) 10, ← Int.mul_assoc]
  exact Int.mul_le_mul_of_nonneg_right (by omega) (Int.pow_nonneg (by omega))
theorem len_cons {α : Type} {l : List α} {n : Nat} (h : l.length = n + 1) : ∃ a t, l = a :: t ∧ t.length = n := by
  cases l with
  | nil => simp at h
  | cons a t => exact ⟨a, t, rfl, by simpa using h⟩
theorem len2 {α : Type} {l0 : List α} (h0 : l0.length = 2) : ∃ a0 a1, l0 = [a0, a1] := by
  obtain ⟨a0, l1, rfl, h1⟩ := len_cons h0
  obtain ⟨a1, l2, rfl, h2⟩ := len_cons h1
  obtain rfl : l2 = [] := List.eq_nil_of_length_eq_zero h2
  exact ⟨_, _, rfl⟩
theorem len3 {α : Type} {l0 : List α} (h0 : l0.length = 3) : ∃ a0 a1 a2, l0 = [a0, a1, a2] := by
  obtain ⟨a0, l1, rfl, h1⟩ := len_cons h0
  obtain ⟨a1, l2, rfl, h2⟩ := len_cons h1
  obtain ⟨a2, l3, rfl, h3⟩ := len_cons h2
  obtain rfl : l3 = [] := List.eq_nil_of_length_eq_zero h3
  exact ⟨_, _, _, rfl⟩
theorem len4 {α : Type} {l0 : List α} (h0 : l0.length = 4) : ∃ a0 a1 a2 a3, l0 = [a0, a1, a2, a3] := by
  obtain ⟨a0, l1, rfl, h1⟩ := len_cons h0
  obtain ⟨a1, l2, rfl, h2⟩ := len_cons h1
  obtain ⟨a2, l3, rfl, h3⟩ := len_cons h2
  obtain ⟨a3, l4, rfl, h4⟩ := len_cons h3
  obtain rfl : l4 = [] := List.eq_nil_of_length_eq_zero h4
  exact ⟨_, _, _, _, rfl⟩
theorem len8 {α : Type} {l0 : List α} (h0 : l0.length = 8) : ∃ a0 a1 a2 a3 a4 a5 a6 a7, l0 = [a0, a1, a2, a3, a4, a5, a6, a7] := by
  obtain ⟨a0, l1, rfl, h1⟩ := len_cons h0
  obtain ⟨a1, l2, rfl, h2⟩ := len_cons h1
  obtain ⟨a2, l3, rfl, h3⟩ := len_cons h2
  obtain ⟨a3, l4, rfl, h4⟩ := len_cons h3
  obtain ⟨a4, l5, rfl, h5⟩ := len_cons h4
  obtain ⟨a5, l6, rfl, h6⟩ := len_cons h5
  obtain ⟨a6, l7, rfl, h7⟩ := len_cons h6
  obtain ⟨a7, l8, rfl, h8⟩ := len_cons h7
  obtain rfl : l8 = [] := List.eq_nil_of_length_eq_zero h8
  exact ⟨_, _, _, _, _, _, _, _, rfl⟩
theorem len24 {α : Type} {l0 : List α} (h0 : l0.length = 24) : ∃ a0 a1 a2 a3 a4 a5 a6 a7 a8 a9 a10 a11 a12 a13 a14 a15 a16 a17 a18 a19 a20 a21 a22 a23, l0 = [a0, a1, a2, a3, a4, a5, a6, a7, a8, a9, a10, a11, a12, a13, a14, a15, a16, a17, a18, a19, a20, a21, a22, a23] := by
  obtain ⟨a0, l1, rfl, h1⟩ := len_cons h0
  obtain ⟨a1, l2, rfl, h2⟩ := len_cons h1
  obtain ⟨a2, l3, rfl, h3⟩ := len_cons h2
  obtain ⟨a3, l4, rfl, h4⟩ := len_cons h3
  obtain ⟨a4, l5, rfl, h5⟩ := len_cons h4
  obtain ⟨a5, l6, rfl, h6⟩ := len_cons h5
  obtain ⟨a6, l7, rfl, h7⟩ := len_cons h6
  obtain ⟨a7, l8, rfl, h8⟩ := len_cons h7
  obtain ⟨a8, l9, rfl, h9⟩ := len_cons h8
  obtain ⟨a9, l10, rfl, h10⟩ := len_cons h9
  obtain ⟨a10, l11, rfl, h11⟩ := len_cons h10
  obtain ⟨a11, l12, rfl, h12⟩ := len_cons h11
  obtain ⟨a12, l13, rfl, h13⟩ := len_cons h12
  obtain ⟨a13, l14, rfl, h14⟩ := len_cons h13
  obtain ⟨a14, l15, rfl, h15⟩ := len_cons h14
  obtain ⟨a15, l16, rfl, h16⟩ := len_cons h15
  obtain ⟨a16, l17, rfl, h17⟩ := len_cons h16
  obtain ⟨a17, l18, rfl, h18⟩ := len_cons h17
  obtain ⟨a18, l19, rfl, h19⟩ := len_cons h18
  obtain ⟨a19, l20, rfl, h20⟩ := len_cons h19
  obtain ⟨a20, l21, rfl, h21⟩ := len_cons h20
  obtain ⟨a21, l22, rfl, h22⟩ := len_cons h21
  obtain ⟨a22, l23, rfl, h23⟩ := len_cons h22
  obtain ⟨a23, l24, rfl, h24⟩ := len_cons h23
  obtain rfl : l24 = [] := List.eq_nil_of_length_eq_zero h24
  exact ⟨_, _, _, _, _, _, _, _, _, _, _, _, _, _, _, _, _, _, _, _, _, _, _, _, rfl⟩
theorem len29 {α : Type} {l0 : List α} (h0 : l0.length = 29) : ∃ a0 a1 a2 a3 a4 a5 a6 a7 a8 a9 a10 a11 a12 a13 a14 a15 a16 a17 a18 a19 a20 a21 a22 a23 a24 a25 a26 a27 a28, l0 = [a0, a1, a2, a3, a4, a5, a6, a7, a8, a9, a10, a11, a12, a13, a14, a15, a16, a17, a18, a19, a20, a21, a22, a23, a24, a25, a26, a27, a28] := by
  obtain ⟨a0, l1, rfl, h1⟩ := len_cons h0
  obtain ⟨a1, l2, rfl, h2⟩ := len_cons h1
  obtain ⟨a2, l3, rfl, h3⟩ := len_cons h2
  obtain ⟨a3, l4, rfl, h4⟩ := len_cons h3
  obtain ⟨a4, l5, rfl, h5⟩ := len_cons h4
  obtain ⟨a5, l6, rfl, h6⟩ := len_cons h5
  obtain ⟨a6, l7, rfl, h7⟩ := len_cons h6
  obtain ⟨a7, l8, rfl, h8⟩ := len_cons h7
  obtain ⟨a8, l9, rfl, h9⟩ := len_cons h8
  obtain ⟨a9, l10, rfl, h10⟩ := len_cons h9
  obtain ⟨a10, l11, rfl, h11⟩ := len_cons h10
  obtain ⟨a11, l12, rfl, h12⟩ := len_cons h11
  obtain ⟨a12, l13, rfl, h13⟩ := len_cons h12
  obtain ⟨a13, l14, rfl, h14⟩ := len_cons h13
  obtain ⟨a14, l15, rfl, h15⟩ := len_cons h14
  obtain ⟨a15, l16, rfl, h16⟩ := len_cons h15
  obtain ⟨a16, l17, rfl, h17⟩ := len_cons h16
  obtain ⟨a17, l18, rfl, h18⟩ := len_cons h17
  obtain ⟨a18, l19, rfl, h19⟩ := len_cons h18
  obtain ⟨a19, l20, rfl, h20⟩ := len_cons h19
  obtain ⟨a20, l21, rfl, h21⟩ := len_cons h20
  obtain ⟨a21, l22, rfl, h22⟩ := len_cons h21
  obtain ⟨a22, l23, rfl, h23⟩ := len_cons h22
  obtain ⟨a23, l24, rfl, h24⟩ := len_cons h23
  obtain ⟨a24, l25, rfl, h25⟩ := len_cons h24
  obtain ⟨a25, l26, rfl, h26⟩ := len_cons h25
  obtain ⟨a26, l27, rfl, h27⟩ := len_cons h26
  obtain ⟨a27, l28, rfl, h28⟩ := len_cons h27
  obtain ⟨a28, l29, rfl, h29⟩ := len_cons h28
  obtain rfl : l29 = [] := List.eq_nil_of_length_eq_zero h29
  exact ⟨_, _, _, _, _, _, _, _, _, _, _, _, _, _, _, _, _, _, _, _, _, _, _, _, _, _, _, _, _, rfl⟩
/-- Hours, minutes, seconds, and whether they are any. -/
def clkR (l : List UInt8) : Int × Int × Int × Bool :=
  if l.length = 8 ∧ l[2]? = some 58 ∧ l[5]? = some 58 then (num (l.take 2) 2, num ((l.drop 3).take 2) 2, num (l.drop 6) 2, decide (0 ≤ num (l.take 2) 2 ∧ 0 ≤ num ((l.drop 3).take 2) 2 ∧ 0 ≤ num (l.drop 6) 2)) else (0, 0, 0, false)
def clkQ : List (List UInt8) → Int × Int × Int
  | [a, b, c] => (num a 2, num b 2, num c 2)
  | _ => (-1, -1, -1)
def clkP (l : List UInt8) : Int × Int × Int := clkQ (spl 58 l)
theorem clkQ_good (L : List (List UInt8)) (h : 0 ≤ (clkQ L).1) : ∃ a b c, L = [a, b, c] := by
  match L, h with
  | [a, b, c], _ => exact ⟨a, b, c, rfl⟩
  | [], h => exact absurd h (by decide)
  | [_], h => exact absurd h (show ¬ (0 : Int) ≤ -1 by decide)
  | [_, _], h => exact absurd h (show ¬ (0 : Int) ≤ -1 by decide)
  | _ :: _ :: _ :: _ :: _, h => exact absurd h (show ¬ (0 : Int) ≤ -1 by decide)
theorem clk_shape {l : List UInt8} (h : (clkR l).2.2.2 = true) : ∃ a b c : List UInt8, l = a ++ 58 :: (b ++ 58 :: c) ∧ a.length = 2 ∧ b.length = 2 ∧ c.length = 2 ∧ 0 ≤ num a 2 ∧ 0 ≤ num b 2 ∧ 0 ≤ num c 2 := by
  unfold clkR at h
  by_cases g : l.length = 8 ∧ l[2]? = some 58 ∧ l[5]? = some 58
  · rw [if_pos g] at h
    obtain ⟨g0, g1, g2⟩ := g
    obtain ⟨a0, a1, a2, a3, a4, a5, a6, a7, rfl⟩ := len8 g0
    obtain rfl : a2 = 58 := Option.some.inj g1
    obtain rfl : a5 = 58 := Option.some.inj g2
    have q := of_decide_eq_true h
    exact ⟨[a0, a1], [a3, a4], [a6, a7], rfl, rfl, rfl, rfl, q⟩
  · rw [if_neg g] at h; cases h
theorem clkR_of {a b c : List UInt8} (ha : a.length = 2) (hb : b.length = 2) (hc : c.length = 2) : clkR (a ++ 58 :: (b ++ 58 :: c)) = (num a 2, num b 2, num c 2, decide (0 ≤ num a 2 ∧ 0 ≤ num b 2 ∧ 0 ≤ num c 2)) := by
  obtain ⟨a0, a1, rfl⟩ := len2 ha
  obtain ⟨b0, b1, rfl⟩ := len2 hb
  obtain ⟨c0, c1, rfl⟩ := len2 hc
  rfl
theorem clk_eq (l : List UInt8) : ((clkR l).2.2.2 = true ∧ clkP l = ((clkR l).1, (clkR l).2.1, (clkR l).2.2.1) ∧ 0 ≤ (clkR l).1 ∧ 0 ≤ (clkR l).2.1 ∧ 0 ≤ (clkR l).2.2.1) ∨ ((clkR l).2.2.2 = false ∧ ¬ (0 ≤ (clkP l).1 ∧ 0 ≤ (clkP l).2.1 ∧ 0 ≤ (clkP l).2.2)) := by
  by_cases h : (clkR l).2.2.2 = true
  · refine .inl ⟨h, ?_⟩
    obtain ⟨a, b, c, rfl, ha, hb, hc, na, nb, nc⟩ := clk_shape h
    rw [clkR_of ha hb hc]
    refine ⟨?_, na, nb, nc⟩
    have da := digit_ne (num_facts na).2.1 58 (by decide)
    have db := digit_ne (num_facts nb).2.1 58 (by decide)
    have dc := digit_ne (num_facts nc).2.1 58 (by decide)
    unfold clkP
    rw [spl3' da db dc]
    rfl
  · refine .inr ⟨by simpa using h, fun g => h ?_⟩
    obtain ⟨a, b, c, e⟩ := clkQ_good _ g.1
    obtain ⟨el, -, -, -⟩ := spl3 e
    unfold clkP at g
    rw [e] at g
    have ha := (num_facts g.1).1
    have hb := (num_facts g.2.1).1
    have hc := (num_facts g.2.2).1
    rw [el, clkR_of ha hb hc]
    exact decide_eq_true g
theorem clk_no (l : List UInt8) (h : (clkR l).2.2.2 = true) (d : UInt8) (hd : d.toNat < 48 ∨ 58 < d.toNat) : d ∉ l := by
  obtain ⟨a, b, c, rfl, -, -, -, na, nb, nc⟩ := clk_shape h
  have da := digit_ne (num_facts na).2.1 d (by omega)
  have db := digit_ne (num_facts nb).2.1 d (by omega)
  have dc := digit_ne (num_facts nc).2.1 d (by omega)
  have d8 : d ≠ 58 := fun e => by rw [e] at hd; revert hd; decide
  simp [da, db, dc, d8]
theorem clk_len {l : List UInt8} (h : (clkR l).2.2.2 = true) : l.length = 8 := by
  obtain ⟨a, b, c, rfl, ha, hb, hc, -⟩ := clk_shape h
  simp [ha, hb, hc]
theorem Ev.tell {α : Type} {a r : α} (h : a = r) : Ev (fun _ => some a) r := h ▸ Ev.now a
def leapY (y : Int) : Bool := decide (y % 4 = 0) && (decide (y % 100 ≠ 0) || decide (y % 400 = 0))
def lenM (y m : Int) : Int := if m = 2 then (if leapY y = true then 29 else 28) else if m = 4 ∨ m = 6 ∨ m = 9 ∨ m = 11 then 30 else 31
theorem lenM_range (y m : Int) : 28 ≤ lenM y m ∧ lenM y m ≤ 31 := by unfold lenM; split <;> split <;> omega
/-- How many days from 1970 on a year begins. -/
def firstY (y : Int) : Int := (y - 1) * 365 + (y - 1) / 4 - (y - 1) / 100 + (y - 1) / 400 - 719162
theorem firstY_next (y : Int) : firstY (y + 1) = firstY y + (if leapY y = true then 366 else 365) := by
  unfold firstY leapY
  by_cases a : y % 4 = 0
  · by_cases b : y % 100 = 0
    · by_cases c : y % 400 = 0
      · simp [a, b, c]; omega
      · simp [a, b, c]; omega
    · simp [a, b]; omega
  · simp [a]; omega
theorem firstY_lt {y : Int} : firstY y + 365 ≤ firstY (y + 1) ∧ firstY (y + 1) ≤ firstY y + 366 := by
  rw [firstY_next]; split <;> omega
theorem firstY_mono (y : Int) : ∀ n : Nat, firstY y + 365 * n ≤ firstY (y + n) ∧ firstY (y + n) ≤ firstY y + 366 * n
  | 0 => by simp
  | n + 1 => by
    have h := firstY_mono y n
    have q := firstY_lt (y := y + n)
    rw [show y + ((n + 1 : Nat) : Int) = y + n + 1 by omega]
    omega
theorem firstY_le {a b : Int} (h : a ≤ b) : firstY a ≤ firstY b := by
  obtain ⟨n, hn⟩ : ∃ n : Nat, b = a + n := ⟨(b - a).toNat, by omega⟩
  have := firstY_mono a n
  rw [hn]; omega
theorem firstY_strict {a b : Int} (h : a < b) : firstY a + 365 ≤ firstY b := by
  have := firstY_le (show a + 1 ≤ b by omega)
  have := firstY_lt (y := a)
  omega
theorem tmod_pos {a : Int} (h : 0 ≤ a) (n : Int) : Int.tmod a n = a % n := Int.tmod_eq_emod_of_nonneg h
theorem tdiv_pos {a : Int} (h : 0 ≤ a) (n : Int) : Int.tdiv a n = a / n := Int.tdiv_eq_ediv_of_nonneg h
theorem firstY_range {y : Int} (h0 : 1 ≤ y) (h1 : y ≤ 10001) : -719162 ≤ firstY y ∧ firstY y ≤ 3000000 := by
  unfold firstY; omega
theorem Ev.ite {α : Type} {c : Prop} [Decidable c] {A B : Nat → Option α} {r : α} (h : c → Ev A r) (k : ¬ c → Ev B r) : Ev (fun n => if c then A n else B n) r := by
  by_cases q : c
  · exact Ev.pos q (h q)
  · exact Ev.neg q (k q)
/-- The days of a year's first months. -/
def sumM (y : Int) : Nat → Int
  | 0 => 0
  | n + 1 => sumM y n + lenM y (n + 1)
theorem sumM_range (y : Int) : ∀ n : Nat, 28 * (n : Int) ≤ sumM y n ∧ sumM y n ≤ 31 * (n : Int)
  | 0 => by simp [sumM]
  | n + 1 => by
    have := sumM_range y n
    have := lenM_range y (n + 1)
    simp only [sumM]
    omega
theorem sumM_year (y : Int) : firstY (y + 1) = firstY y + sumM y 12 := by
  rw [firstY_next]
  unfold sumM sumM sumM sumM sumM sumM sumM sumM sumM sumM sumM sumM sumM
  simp [lenM]
  cases leapY y <;> simp
def badM (y mo d h mi s : Int) : Prop := y < 1601 ∨ y > 9999 ∨ mo < 1 ∨ mo > 12 ∨ d < 1 ∨ d > lenM y mo ∨ h < 0 ∨ h > 23 ∨ mi < 0 ∨ mi > 59 ∨ s < 0 ∨ s > 60
instance (y mo d h mi s : Int) : Decidable (badM y mo d h mi s) := by unfold badM; infer_instance
/-- The second of a time. -/
def makeOf (y mo d h mi s : Int) : Int × Bool := if badM y mo d h mi s then (0, false) else ((firstY y + d - 1 + sumM y (mo - 1).toNat) * 86400 + h * 3600 + mi * 60 + mn s 59, true)
def monL : List (List UInt8) := [[74, 97, 110], [70, 101, 98], [77, 97, 114], [65, 112, 114], [77, 97, 121], [74, 117, 110], [74, 117, 108], [65, 117, 103], [83, 101, 112], [79, 99, 116], [78, 111, 118], [68, 101, 99]]
def dayL : List (List UInt8) := [[83, 117, 110], [77, 111, 110], [84, 117, 101], [87, 101, 100], [84, 104, 117], [70, 114, 105], [83, 97, 116]]
def longL : List (List UInt8) := [[83, 117, 110, 100, 97, 121], [77, 111, 110, 100, 97, 121], [84, 117, 101, 115, 100, 97, 121], [87, 101, 100, 110, 101, 115, 100, 97, 121], [84, 104, 117, 114, 115, 100, 97, 121], [70, 114, 105, 100, 97, 121], [83, 97, 116, 117, 114, 100, 97, 121]]
def dayR : List (List UInt8) := [[84, 104, 117], [70, 114, 105], [83, 97, 116], [83, 117, 110], [77, 111, 110], [84, 117, 101], [87, 101, 100]]
def longR : List (List UInt8) := [[84, 104, 117, 114, 115, 100, 97, 121], [70, 114, 105, 100, 97, 121], [83, 97, 116, 117, 114, 100, 97, 121], [83, 117, 110, 100, 97, 121], [77, 111, 110, 100, 97, 121], [84, 117, 101, 115, 100, 97, 121], [87, 101, 100, 110, 101, 115, 100, 97, 121]]
/-- A text's first place in a list; -1: it is not there. -/
def idxF (s : List UInt8) : List (List UInt8) → Int → Int
  | [], _ => -1
  | x :: t, i => if x = s then i else idxF s t (i + 1)
theorem idxF_facts (s : List UInt8) : ∀ (l : List (List UInt8)) (i : Int), 0 ≤ i → (0 ≤ idxF s l i ↔ s ∈ l) ∧ -1 ≤ idxF s l i ∧ idxF s l i < i + l.length + 1
  | [], i, h => by simp [idxF]; omega
  | x :: t, i, h => by
    have q := idxF_facts s t (i + 1) (by omega)
    unfold idxF
    by_cases e : x = s
    · rw [if_pos e]; simp [e]; omega
    · rw [if_neg e, List.length_cons]
      refine ⟨q.1.trans ?_, q.2.1, by omega⟩
      simp [Ne.symm e]
def mon (s : List UInt8) : Int := idxF s monL 0
theorem mon_facts (s : List UInt8) : (0 ≤ mon s ↔ s ∈ monL) ∧ -1 ≤ mon s ∧ mon s < 13 := by
  have := idxF_facts s monL 0 (by omega)
  refine ⟨this.1, this.2.1, ?_⟩
  have h := this.2.2
  have e : (monL.length : Int) = 12 := rfl
  unfold mon; omega
theorem monL_facts : ∀ x ∈ monL, x.length = 3 ∧ (32 : UInt8) ∉ x ∧ (45 : UInt8) ∉ x := by decide
theorem dayL_facts : ∀ x ∈ dayL, x.length = 3 ∧ (32 : UInt8) ∉ x ∧ (44 : UInt8) ∉ x := by decide
theorem longL_facts : ∀ x ∈ longL, 6 ≤ x.length ∧ x.length ≤ 9 ∧ (32 : UInt8) ∉ x ∧ (44 : UInt8) ∉ x := by decide
theorem dayR_mem (s : List UInt8) : s ∈ dayR ↔ s ∈ dayL :=
  ⟨(show ∀ x ∈ dayR, x ∈ dayL by decide) s, (show ∀ x ∈ dayL, x ∈ dayR by decide) s⟩
theorem longR_mem (s : List UInt8) : s ∈ longR ↔ s ∈ longL :=
  ⟨(show ∀ x ∈ longR, x ∈ longL by decide) s, (show ∀ x ∈ longL, x ∈ longR by decide) s⟩
def inR (t : Int) : Bool := decide (t ≥ -11644473600) && decide (t < 253402300800)
theorem day_split (t : Int) : (Int.tmod t 86400 < 0 → Int.tdiv t 86400 - 1 = t / 86400 ∧ Int.tmod t 86400 + 86400 = t % 86400) ∧ (¬ Int.tmod t 86400 < 0 → Int.tdiv t 86400 = t / 86400 ∧ Int.tmod t 86400 = t % 86400) := by
  by_cases h : 0 ≤ t
  · rw [tmod_pos h, tdiv_pos h]
    refine ⟨fun c => by omega, fun c => ⟨rfl, rfl⟩⟩
  · obtain ⟨m, rfl⟩ : ∃ m, t = -m := ⟨-t, by omega⟩
    rw [Int.neg_tmod, Int.neg_tdiv, tmod_pos (by omega), tdiv_pos (by omega)]
    refine ⟨fun c => by omega, fun c => by omega⟩
theorem year_ex (n : Int) (h0 : firstY 1601 ≤ n) : ∀ m : Nat, n < firstY (1601 + m) → ∃ y : Int, 1601 ≤ y ∧ y < 1601 + m ∧ firstY y ≤ n ∧ n < firstY (y + 1)
  | 0, h => by simp at h; omega
  | m + 1, h => by
    by_cases c : n < firstY (1601 + m)
    · obtain ⟨y, a, b, d, e⟩ := year_ex n h0 m c
      exact ⟨y, a, by omega, d, e⟩
    · exact ⟨1601 + m, by omega, by omega, by omega, by rw [show (1601 : Int) + m + 1 = 1601 + ((m + 1 : Nat) : Int) by omega]; exact h⟩
theorem year_of {t : Int} (h : inR t = true) : ∃ y : Int, 1601 ≤ y ∧ y ≤ 9999 ∧ firstY y ≤ t / 86400 ∧ t / 86400 < firstY (y + 1) := by
  unfold inR at h
  simp only [Bool.and_eq_true, decide_eq_true_eq] at h
  have e1 : firstY 1601 = -134774 := by decide
  have e2 : firstY (1601 + (8399 : Nat)) = 2932897 := by decide
  obtain ⟨y, a, b, c, d⟩ := year_ex (t / 86400) (by rw [e1]; omega) 8399 (by rw [e2]; omega)
  exact ⟨y, a, by omega, c, d⟩
/-- The year that ends in two digits, fifty years ahead at most. -/
def nearY (yy y : Int) : Int := y + 50 - (y + 50 - yy) % 100
def tellM (m : Int × Bool) : Int × Int := if m.2 = true then (m.1, 0) else (0, 1)
def okM (y mo d : Int) (c : Int × Int × Int × Bool) : Prop := c.2.2.2 = true ∧ 0 ≤ y ∧ 0 ≤ mo ∧ 0 ≤ d
instance (y mo d : Int) (c : Int × Int × Int × Bool) : Decidable (okM y mo d c) := by unfold okM; infer_instance
/-- A time of parts that were read. -/
def madeOf (y mo d : Int) (c : Int × Int × Int × Bool) : Int × Int := if okM y mo d c then tellM (makeOf y (mo + 1) d c.1 c.2.1 c.2.2.1) else (0, 4)
theorem made_no {y mo d : Int} {c : Int × Int × Int × Bool} (h : ¬ okM y mo d c) : madeOf y mo d c = (0, 4) := if_neg h
def finOf (x : Int × Int × Int × Int × Int × Int) : Int × Int :=
  if 0 ≤ x.1 ∧ 0 ≤ x.2.1 ∧ 0 ≤ x.2.2.1 ∧ 0 ≤ x.2.2.2.1 ∧ 0 ≤ x.2.2.2.2.1 ∧ 0 ≤ x.2.2.2.2.2 then tellM (makeOf x.1 (x.2.1 + 1) x.2.2.1 x.2.2.2.1 x.2.2.2.2.1 x.2.2.2.2.2) else (0, 4)
theorem fin_made (y mo d : Int) (l : List UInt8) : finOf (y, mo, d, clkP l) = madeOf y mo d (clkR l) := by
  unfold finOf madeOf
  rcases clk_eq l with ⟨h1, h2, h3, h4, h5⟩ | ⟨h1, h2⟩
  · rw [h2]
    by_cases q : 0 ≤ y ∧ 0 ≤ mo ∧ 0 ≤ d
    · rw [if_pos ⟨q.1, q.2.1, q.2.2, h3, h4, h5⟩, if_pos (show okM y mo d (clkR l) from ⟨h1, q⟩)]
    · rw [if_neg (fun g => q ⟨g.1, g.2.1, g.2.2.1⟩), if_neg (fun g : okM y mo d (clkR l) => q g.2)]
  · rw [if_neg (fun g => h2 g.2.2.2), if_neg (fun g : okM y mo d (clkR l) => by have := g.1; rw [h1] at this; cases this)]
def YR (t y : Int) : Prop := 1601 ≤ y ∧ y ≤ 9999 ∧ (inR t = true → firstY y ≤ t / 86400 ∧ t / 86400 < firstY (y + 1)) ∧ (inR t = false → y = 1970)
theorem yr_ex (t : Int) : ∃ y, YR t y := by
  cases h : inR t
  · exact ⟨1970, by unfold YR; simp [h]⟩
  · obtain ⟨y, a, b, c, d⟩ := year_of h
    exact ⟨y, a, b, fun _ => ⟨c, d⟩, fun e => by rw [h] at e; cases e⟩
def gmt : List UInt8 := [71, 77, 84]
def endsC (p : List UInt8) : Bool := Lib.hasSuffix p [44]
def fixY (p0 p3 p5 : List UInt8) : Int := if p0.length = 4 ∧ p0[3]? = some 44 ∧ p0.take 3 ∈ dayL ∧ p5 = gmt then num p3 4 else -1
def fixP (p0 p1 p2 p3 p4 p5 : List UInt8) : Int × Int := madeOf (fixY p0 p3 p5) (mon p2) (num p1 2) (clkR p4)
def obsY (q2 : List UInt8) (yr : Int) : Int := if 0 ≤ num q2 2 then nearY (num q2 2) yr else -1
def obsQ (p0 p2 p3 : List UInt8) (yr : Int) : List (List UInt8) → Int × Int
  | [q0, q1, q2] => if endsC p0 = true ∧ p0.take (p0.length - 1) ∈ longL ∧ p3 = gmt then madeOf (obsY q2 yr) (mon q1) (num q0 2) (clkR p2) else (0, 4)
  | _ => (0, 4)
def obsP (p0 p1 p2 p3 : List UInt8) (yr : Int) : Int × Int := obsQ p0 p2 p3 yr (spl 45 p1)
def ascG (l : List UInt8) : Prop := l.length = 24 ∧ l[3]? = some 32 ∧ l[7]? = some 32 ∧ l[10]? = some 32 ∧ l[19]? = some 32 ∧ l.take 3 ∈ dayL
instance (l : List UInt8) : Decidable (ascG l) := by unfold ascG; infer_instance
def ascD (l : List UInt8) : Int := if l[8]? = some 32 then num ((l.drop 9).take 1) 1 else num ((l.drop 8).take 2) 2
def ascM (l : List UInt8) : Int × Int := madeOf (num (l.drop 20) 4) (mon ((l.drop 4).take 3)) (ascD l) (clkR ((l.drop 11).take 8))
def ascP (l : List UInt8) : Int × Int := if ascG l then ascM l else (0, 4)
def parseQ (l : List UInt8) (yr : Int) : List (List UInt8) → Int × Int
  | [p0, p1, p2, p3, p4, p5] => if endsC p0 = true then fixP p0 p1 p2 p3 p4 p5 else ascP l
  | [p0, p1, p2, p3] => if endsC p0 = true then obsP p0 p1 p2 p3 yr else ascP l
  | _ => ascP l
/-- A date, read by its pieces. -/
def parseP (l : List UInt8) (yr : Int) : Int × Int := parseQ l yr (spl 32 l)
def imfG (l : List UInt8) : Prop := l.length = 29 ∧ (l.drop 3).take 2 = [44, 32] ∧ l[7]? = some 32 ∧ l[11]? = some 32 ∧ l[16]? = some 32 ∧ l.drop 25 = [32, 71, 77, 84] ∧ l.take 3 ∈ dayL
instance (l : List UInt8) : Decidable (imfG l) := by unfold imfG; infer_instance
def imfM (l : List UInt8) : Int × Int := madeOf (num ((l.drop 12).take 4) 4) (mon ((l.drop 8).take 3)) (num ((l.drop 5).take 2) 2) (clkR ((l.drop 17).take 8))
def rfcG (r : List UInt8) : Prop := r.length = 24 ∧ r[1]? = some 32 ∧ r[4]? = some 45 ∧ r[8]? = some 45 ∧ r[11]? = some 32 ∧ r.drop 20 = [32, 71, 77, 84]
instance (r : List UInt8) : Decidable (rfcG r) := by unfold rfcG; infer_instance
def rfcY (q : List UInt8) (yr : Int) : Int := if 0 ≤ num q 2 then nearY (num q 2) yr else num q 2
def rfcM (r : List UInt8) (yr : Int) : Int × Int := madeOf (rfcY ((r.drop 9).take 2) yr) (mon ((r.drop 5).take 3)) (num ((r.drop 2).take 2) 2) (clkR ((r.drop 12).take 8))
/-- How many bytes stand before the first ','. -/
def com : List UInt8 → Nat
  | [] => 0
  | b :: t => if b = 44 then 0 else com t + 1
theorem com_le : ∀ l : List UInt8, com l ≤ l.length
  | [] => Nat.le_refl _
  | b :: t => by unfold com; split; omega; have := com_le t; simp; omega
theorem com_of : ∀ (n r : List UInt8), (44 : UInt8) ∉ n → com (n ++ 44 :: r) = n.length
  | [], r, _ => by simp [com]
  | b :: t, r, h => by
    have hb : b ≠ 44 := fun e => h (by simp [e])
    rw [List.cons_append, com, if_neg hb, com_of t r (fun e => h (by simp [e]))]; rfl
def obsG (l : List UInt8) : Prop := com l < l.length ∧ l.take (com l) ∈ longL ∧ rfcG (l.drop (com l))
instance (l : List UInt8) : Decidable (obsG l) := by unfold obsG; infer_instance
/-- A date, read by its places. -/
def parseR (l : List UInt8) (yr : Int) : Int × Int := if imfG l then imfM l else if ascG l then ascM l else if obsG l then rfcM (l.drop (com l)) yr else (0, 4)
theorem number_loop (s : ByteArray) (hs : s.size ≤ 1000000000) : ∀ (t : List UInt8) (i : Nat) (n : Int), (B s).drop i = t → 0 ≤ n → (n + 1) * 10 ^ t.length ≤ 1000000000000000000 → Ev (fun k => date_number.l0 k s n (s.size : Int) (i : Int)) (numV t n)
  | [], i, n, h, h0, h1 => by
    have := end_drop h
    exact Ev.step (fun _ => date_number.l0.eq_2 ..) (Ev.neg (by omega) (Ev.now _))
  | c :: t, i, n, h, h0, h1 => by
    obtain ⟨e1, e2, e3⟩ := bt_drop h
    have u := u8_lt c
    have hn := pow_small 0 (c :: t) h0 h1
    refine Ev.step (fun _ => date_number.l0.eq_2 ..) (Ev.pos (by omega) (Ev.pos (by omega) (Ev.pos (by omega) ?_)))
    rw [e1]
    unfold numV
    by_cases a1 : (c.toNat : Int) < 48
    · rw [if_pos a1]; exact Ev.pos a1 (Ev.now _)
    · rw [if_neg a1]; refine Ev.neg a1 ?_
      by_cases a2 : (c.toNat : Int) > 57
      · rw [if_pos a2]; exact Ev.pos a2 (Ev.now _)
      · rw [if_neg a2]; refine Ev.neg a2 ?_
        have hq := num_next (d := (c.toNat : Int) - 48) h1 (by omega)
        have hm := pow_small 0 t (by omega) hq
        rw [wrap_id (x := n * 10) (by omega) (by omega), Int.emod_eq_of_lt (by omega) (by omega), wrap_id (x := n * 10 + _) (by omega) (by omega), wrap_id (x := (i : Int) + 1) (by omega) (by omega), cast_succ]
        refine number_loop s hs t (i + 1) _ e3 (by omega) hq
theorem number_ok (s : ByteArray) (hs : s.size ≤ 1000000000) (w : Nat) (hw : w ≤ 18) : Ev (fun k => date_number.f k s (w : Int)) (num (B s) w) := by
  unfold date_number.f num
  rw [← size_B]
  by_cases h : s.size = w
  · rw [if_pos h]
    refine Ev.pos (by omega) (number_loop s hs (B s) 0 0 rfl (by omega) ?_)
    rw [← size_B, h]
    have := ten_pow hw
    omega
  · rw [if_neg h]
    exact Ev.neg (by omega) (Ev.now _)
theorem Index_loop (l : List ByteArray) (s : ByteArray) (hl : l.length ≤ 1000) : ∀ (t : List ByteArray) (i : Nat), l.drop i = t → Ev (fun k => slices_Index_string_string.l0 k l s (l.length : Int) (i : Int)) (idxF (B s) (t.map B) i)
  | [], i, h => by
    have := drop_nil h
    exact Ev.step (fun _ => slices_Index_string_string.l0.eq_2 ..) (Ev.neg (by omega) (Ev.now _))
  | x :: t, i, h => by
    obtain ⟨h1, h2, h3⟩ := drop_cons h
    refine Ev.step (fun _ => slices_Index_string_string.l0.eq_2 ..) (Ev.pos (by omega) (Ev.pos (by omega) (Ev.pos (by omega) ?_)))
    rw [rdOf_of h2, toList_B, toList_B, List.map_cons, idxF]
    by_cases e : B s = B x
    · rw [if_pos e.symm]; exact Ev.pos e (Ev.now _)
    · rw [if_neg (fun q => e q.symm)]
      refine Ev.neg e ?_
      rw [wrap_id (by omega) (by omega), cast_succ]
      exact Index_loop l s hl t (i + 1) h3
theorem month_ok (s : ByteArray) (y mo d h mi c : Int) : Ev (fun k => date_date_month.f k y mo d h mi c s) (y, mon (B s), d, h, mi, c) := by
  unfold date_date_month.f
  obtain ⟨M, hM⟩ : ∃ M, date_months.f = some M := ⟨_, rfl⟩
  refine Ev.bnd hM (Ev.bind (a := mon (B s)) ?_ (Ev.now _))
  have e : M.map B = monL := by rw [← Option.some.inj hM]; rfl
  have hl : M.length ≤ 1000 := by rw [← List.length_map (f := B), e]; decide
  have := Index_loop M s hl M 0 rfl
  rw [e] at this
  exact this
theorem dayNames_eq : Own.dayNames.map B = longL := rfl
theorem dayNames_eq3 : Own.dayNames.map (fun x => (x.extract 0 3).toList) = dayL := by kernel_rfl
theorem any_dec (l : List (List UInt8)) (s : List UInt8) : (l.any fun x => x == s) = decide (s ∈ l) := by
  rw [Bool.eq_iff_iff, List.any_eq_true, decide_eq_true_iff]
  exact ⟨fun ⟨x, hx, e⟩ => by rw [← beq_iff_eq.1 e]; exact hx, fun h => ⟨s, h, beq_self_eq_true s⟩⟩
theorem named_short (s : ByteArray) : date_named.f s true = some (decide (B s ∈ dayL)) := by
  unfold date_named.f
  rw [← any_dec, ← dayNames_eq3, List.any_map]
  congr 2
  funext x
  simp [Own.nameIs, Function.comp, toList_B]
theorem named_long (s : ByteArray) : date_named.f s false = some (decide (B s ∈ longL)) := by
  unfold date_named.f
  rw [← any_dec, ← dayNames_eq, List.any_map]
  congr 2
  funext x
  simp [Own.nameIs, Function.comp, toList_B]
theorem leap_ok {y : Int} (h : 0 ≤ y) : date_leap.f y = some (leapY y) := by
  unfold date_leap.f leapY
  rw [tmod_pos h, tmod_pos h, tmod_pos h]
  by_cases a : y % 4 = 0
  · rw [if_pos a]
    by_cases b : y % 100 = 0
    · rw [if_pos b]; simp [a, b]; rfl
    · rw [if_neg b]; simp [a, b]
  · rw [if_neg a]
    have : ¬ y % 400 = 0 := by omega
    simp [a, this]
theorem length_ok {y m : Int} (h : 0 ≤ y) : Ev (fun k => date_length.f k y m) (lenM y m) := by
  unfold date_length.f lenM
  by_cases a : m = 2
  · rw [if_pos a]
    refine Ev.pos a (Ev.bnd (leap_ok h) (Ev.step (fun _ => date_length.j0.eq_2 ..) ?_))
    cases b : leapY y
    · exact Ev.neg (by simp) (Ev.pos a (Ev.now _))
    · exact Ev.pos rfl (Ev.now _)
  · rw [if_neg a]
    refine Ev.neg a (Ev.step (fun _ => date_length.j0.eq_2 ..) (Ev.neg (by simp) (Ev.neg a ?_)))
    by_cases b : m = 4
    · exact Ev.pos b (Ev.tell (if_pos (by omega)).symm)
    refine Ev.neg b ?_
    by_cases c : m = 6
    · exact Ev.pos c (Ev.tell (if_pos (by omega)).symm)
    refine Ev.neg c ?_
    by_cases d : m = 9
    · exact Ev.pos d (Ev.tell (if_pos (by omega)).symm)
    refine Ev.neg d ?_
    by_cases e : m = 11
    · exact Ev.pos e (Ev.tell (if_pos (by omega)).symm)
    · exact Ev.neg e (Ev.tell (if_neg (by omega)).symm)
theorem ahead_ok {y : Int} (h0 : 1 ≤ y) (h1 : y ≤ 20000) : date_ahead.f y = some ((y - 1) * 365 + (y - 1) / 4 - (y - 1) / 100 + (y - 1) / 400) := by
  unfold date_ahead.f
  rw [wrap_id (x := y - 1) (by omega) (by omega), tdiv_pos (by omega), tdiv_pos (by omega), tdiv_pos (by omega)]
  simp (disch := omega) only [wrap_id]
theorem first_ok' {y : Int} (h0 : 1 ≤ y) (h1 : y ≤ 20000) : date_first.f y = some (firstY y) := by
  unfold date_first.f
  rw [ahead_ok h0 h1, ahead_ok (y := 1970) (by omega) (by omega)]
  simp only [Option.bind_some]
  rw [wrap_id (by omega) (by omega)]
  unfold firstY
  congr 1
theorem date_Make_loop (y h mi s : Int) (hy : 1 ≤ y ∧ y ≤ 10000) (hh : 0 ≤ h ∧ h ≤ 23) (hm : 0 ≤ mi ∧ mi ≤ 59) (hs : 0 ≤ s ∧ s ≤ 60) : ∀ (j p : Nat) (n : Int), p + j ≤ 11 → -10000000 ≤ n → n + 31 * j ≤ 10000000 →
    Ev (fun k => date_Make.l0 k y ((p : Int) + 1 + j) h mi s n ((p : Int) + 1)) ((n + (sumM y (p + j) - sumM y p)) * 86400 + h * 3600 + mi * 60 + mn s 59, true)
  | 0, p, n, hp, h0, h1 => by
    have q : 0 ≤ mn s 59 ∧ mn s 59 ≤ 59 := by unfold mn; split <;> omega
    refine Ev.step (fun _ => date_Make.l0.eq_2 ..) (Ev.neg (by omega) (Ev.tell ?_))
    simp (disch := omega) only [wrap_id]
    rw [Nat.add_zero]
    congr 1
    omega
  | j + 1, p, n, hp, h0, h1 => by
    have l := lenM_range y ((p : Int) + 1)
    refine Ev.step (fun _ => date_Make.l0.eq_2 ..) (Ev.pos (by omega) (Ev.bind (length_ok (by omega)) ?_))
    rw [wrap_id (x := n + _) (by omega) (by omega), wrap_id (x := (p : Int) + 1 + 1) (by omega) (by omega)]
    have r := date_Make_loop y h mi s hy hh hm hs j (p + 1) (n + lenM y ((p : Int) + 1)) (by omega) (by omega) (by omega)
    have e1 : ((p + 1 : Nat) : Int) + 1 + (j : Int) = (p : Int) + 1 + ((j + 1 : Nat) : Int) := by omega
    have e2 : ((p + 1 : Nat) : Int) + 1 = (p : Int) + 1 + 1 := by omega
    have e3 : sumM y (p + 1) = sumM y p + lenM y ((p : Int) + 1) := by simp only [sumM]
    have e4 : p + 1 + j = p + (j + 1) := by omega
    rw [e1, e2, e3, e4] at r
    have e5 : n + lenM y ((p : Int) + 1) + (sumM y (p + (j + 1)) - (sumM y p + lenM y ((p : Int) + 1))) = n + (sumM y (p + (j + 1)) - sumM y p) := by omega
    rw [e5] at r
    exact r
theorem date_Make_ok (y mo d h mi s : Int) : Ev (fun k => date_Make.f k y mo d h mi s) (makeOf y mo d h mi s) := by
  have bad : badM y mo d h mi s → Ev (fun k => date_Make.j0 k y mo d h mi s true) (makeOf y mo d h mi s) := fun hb =>
    Ev.step (fun _ => date_Make.j0.eq_2 ..) (Ev.pos rfl (Ev.tell (if_pos hb).symm))
  unfold date_Make.f
  refine Ev.ite (fun c => bad (by unfold badM; omega)) (fun c1 => ?_)
  refine Ev.ite (fun c => bad (by unfold badM; omega)) (fun c2 => ?_)
  refine Ev.ite (fun c => bad (by unfold badM; omega)) (fun c3 => ?_)
  refine Ev.ite (fun c => bad (by unfold badM; omega)) (fun c4 => ?_)
  refine Ev.ite (fun c => bad (by unfold badM; omega)) (fun c5 => ?_)
  refine Ev.bind (length_ok (by omega)) ?_
  refine Ev.ite (fun c => bad (by unfold badM; omega)) (fun c6 => ?_)
  refine Ev.ite (fun c => bad (by unfold badM; omega)) (fun c7 => ?_)
  refine Ev.ite (fun c => bad (by unfold badM; omega)) (fun c8 => ?_)
  refine Ev.ite (fun c => bad (by unfold badM; omega)) (fun c9 => ?_)
  refine Ev.ite (fun c => bad (by unfold badM; omega)) (fun c10 => ?_)
  refine Ev.ite (fun c => bad (by unfold badM; omega)) (fun c11 => ?_)
  by_cases c12 : s > 60
  · rw [decide_eq_true c12]; exact bad (by unfold badM; omega)
  · rw [decide_eq_false c12]
    refine Ev.step (fun _ => date_Make.j0.eq_2 ..) (Ev.neg (by simp) (Ev.bnd (first_ok' (by omega) (by omega)) ?_))
    have l := lenM_range y mo
    have f := firstY_range (y := y) (by omega) (by omega)
    rw [wrap_id (x := firstY y + d) (by omega) (by omega), wrap_id (x := firstY y + d - 1) (by omega) (by omega)]
    have r := date_Make_loop y h mi s ⟨by omega, by omega⟩ ⟨by omega, by omega⟩ ⟨by omega, by omega⟩ ⟨by omega, by omega⟩ (mo - 1).toNat 0 (firstY y + d - 1) (by omega) (by omega) (by omega)
    have e1 : (((0 : Nat) : Int) + 1 + ((mo - 1).toNat : Int)) = mo := by omega
    rw [e1] at r
    have e2 : makeOf y mo d h mi s = ((firstY y + d - 1 + (sumM y (0 + (mo - 1).toNat) - sumM y 0)) * 86400 + h * 3600 + mi * 60 + mn s 59, true) := by
      unfold makeOf
      rw [if_neg (by unfold badM; omega), Nat.zero_add]
      simp [sumM]
    rw [e2]
    exact r
theorem within_ok (t : Int) : date_within.f t = some (inR t) := by
  unfold date_within.f inR
  rw [first_ok' (y := 1601) (by omega) (by omega), first_ok' (y := 10000) (by omega) (by omega)]
  have e1 : firstY 1601 = -134774 := by decide
  have e2 : firstY 10000 = 2932897 := by decide
  simp only [Option.bind_some, e1, e2]
  have w1 : wrap64 (-134774 * 86400) = -11644473600 := wrap_id (by omega) (by omega)
  have w2 : wrap64 (2932897 * 86400) = 253402300800 := wrap_id (by omega) (by omega)
  rw [w1, w2]
  by_cases h : t ≥ -11644473600
  · rw [if_pos h, decide_eq_true h]; rfl
  · rw [if_neg h, decide_eq_false h]; rfl
theorem down_ok {t : Int} (h0 : -9000000000000000000 ≤ t) (h1 : t ≤ 9000000000000000000) : date_down.f t 86400 = some (t / 86400, t % 86400) := by
  unfold date_down.f
  have d := day_split t
  rw [if_neg (by omega)]
  by_cases c : Int.tmod t 86400 < 0
  · obtain ⟨a, b⟩ := d.1 c
    rw [if_pos c, wrap_id (x := Int.tdiv t 86400) (by omega) (by omega), wrap_id (by omega) (by omega), wrap_id (by omega) (by omega), a, b]
  · obtain ⟨a, b⟩ := d.2 c
    rw [if_neg c, wrap_id (x := Int.tdiv t 86400) (by omega) (by omega), a, b]
theorem yearOf_loop (n y : Int) (hy : y ≤ 9999) (h0 : firstY y ≤ n) (h1 : n < firstY (y + 1)) (hn : -1000000 ≤ n ∧ n ≤ 10000000) : ∀ (j : Nat) (x : Int), 1 ≤ x → x + j = y → Ev (fun k => date_yearOf.l0 k n x) (y, n - firstY y)
  | 0, x, hx, he => by
    obtain rfl : x = y := by omega
    have f := firstY_range (y := x) (by omega) (by omega)
    refine Ev.step (fun _ => date_yearOf.l0.eq_2 ..) (Ev.ite (fun c => ?_) (fun c => ?_))
    · rw [wrap_id (x := x + 1) (by omega) (by omega)]
      refine Ev.bnd (first_ok' (by omega) (by omega)) (Ev.neg (by omega) (Ev.bnd (first_ok' (by omega) (by omega)) ?_))
      rw [wrap_id (by omega) (by omega)]
      exact Ev.now _
    · refine Ev.bnd (first_ok' (by omega) (by omega)) ?_
      rw [wrap_id (by omega) (by omega)]
      exact Ev.now _
  | j + 1, x, hx, he => by
    have q := firstY_le (show x + 1 ≤ y by omega)
    refine Ev.step (fun _ => date_yearOf.l0.eq_2 ..) (Ev.pos (by omega) ?_)
    rw [wrap_id (x := x + 1) (by omega) (by omega)]
    exact Ev.bnd (first_ok' (by omega) (by omega)) (Ev.pos (by omega) (yearOf_loop n y hy h0 h1 hn j (x + 1) (by omega) (by omega)))
theorem yearOf_ok {n y : Int} (ha : 1601 ≤ y) (hy : y ≤ 9999) (h0 : firstY y ≤ n) (h1 : n < firstY (y + 1)) : Ev (fun k => date_yearOf.f k n) (y, n - firstY y) := by
  have e1 : firstY 1601 = -134774 := by decide
  have f0 := firstY_le ha
  have f2 := firstY_range (y := y + 1) (by omega) (by omega)
  unfold date_yearOf.f
  refine Ev.bnd (first_ok' (y := 1601) (by omega) (by omega)) ?_
  rw [e1, wrap_id (x := n - _) (by omega) (by omega), tdiv_pos (by omega), wrap_id (x := (n - -134774) / 366) (by omega) (by omega), wrap_id (by omega) (by omega)]
  obtain ⟨m, hm⟩ : ∃ m : Nat, (n - -134774) / 366 = m := ⟨((n - -134774) / 366).toNat, by omega⟩
  rw [hm]
  have g := firstY_mono 1601 m
  have hle : 1601 + (m : Int) ≤ y := by
    refine Int.not_lt.1 (fun c => ?_)
    have := firstY_le (show y + 1 ≤ 1601 + (m : Int) by omega)
    omega
  exact yearOf_loop n y hy h0 h1 ⟨by omega, by omega⟩ (y - (1601 + (m : Int))).toNat _ (by omega) (by omega)
theorem bt_ex {s : ByteArray} {i : Nat} (h : i < s.size) : ∃ c, (B s)[i]? = some c ∧ bt s (i : Int) = (c.toNat : Int) := by
  have hl : i < (B s).length := by rw [← size_B]; exact h
  exact ⟨_, List.getElem?_eq_getElem hl, bt_of (List.getElem?_eq_getElem hl)⟩
theorem Split_ok (s : ByteArray) (c : UInt8) (hs : s.size < 4294967281) : strings_Split.f s (⟨#[c]⟩ : ByteArray) = some ((spl c (B s)).map mk) := by
  unfold strings_Split.f
  rw [if_pos hs, if_pos (show (⟨#[c]⟩ : ByteArray).size = 1 from rfl), splB_eq]
theorem spl_len (c : UInt8) : ∀ (l : List UInt8), ∀ p ∈ spl c l, p.length ≤ l.length
  | [], p, h => by simp [spl] at h; simp [h]
  | b :: t, p, h => by
    unfold spl at h
    have ih := spl_len c t
    split at h
    · rcases List.mem_cons.1 h with rfl | q
      · simp
      · have := ih p q; simp; omega
    · cases hs : spl c t with
      | nil => exact absurd hs (spl_ne c t)
      | cons a r =>
        rw [hs] at h ih
        rcases List.mem_cons.1 h with rfl | q
        · have := ih a (by simp); simpa using this
        · have := ih p (by simpa using Or.inr q); simp; omega
theorem near_ok {yy t y : Int} (h0 : 0 ≤ yy) (h1 : yy ≤ 99) (h : YR t y) : Ev (fun k => date_near.f k yy t) (nearY yy y) := by
  obtain ⟨a, b, c, d⟩ := h
  unfold date_near.f nearY
  refine Ev.bnd (within_ok t) ?_
  cases hi : inR t
  · obtain rfl := d hi
    refine Ev.neg (by simp) ?_
    rw [wrap_id (x := 1970 + 50 - yy) (by omega) (by omega), tmod_pos (by omega), wrap_id (by omega) (by omega)]
    exact Ev.now _
  · obtain ⟨c1, c2⟩ := c hi
    unfold inR at hi
    simp only [Bool.and_eq_true, decide_eq_true_eq] at hi
    refine Ev.pos rfl (Ev.bnd (down_ok (by omega) (by omega)) (Ev.bind (yearOf_ok a b c1 c2) ?_))
    rw [wrap_id (x := y + 50) (by omega) (by omega), wrap_id (x := y + 50 - yy) (by omega) (by omega), tmod_pos (by omega), wrap_id (by omega) (by omega)]
    exact Ev.now _
theorem len_short (L : List (List UInt8)) : ¬ ((L.map mk).length : Int) = 3 → clkQ L = (-1, -1, -1) := fun h => by
  match L, h with
  | [a, b, c], h => exact absurd rfl h
  | [], _ => rfl
  | [_], _ => rfl
  | [_, _], _ => rfl
  | _ :: _ :: _ :: _ :: _, _ => rfl
theorem clock_ok (s : ByteArray) (hs : s.size ≤ 2000000) (y mo d h mi c : Int) : Ev (fun k => date_date_clock.f k y mo d h mi c s) (y, mo, d, clkP (B s)) := by
  unfold date_date_clock.f clkP
  refine Ev.bnd (Split_ok s 58 (by omega)) ?_
  have hl := spl_len 58 (B s)
  rw [← size_B] at hl
  generalize spl 58 (B s) = L at hl
  refine Ev.ite (fun e => ?_) (fun e => ?_)
  · obtain ⟨p, q, r, rfl⟩ := len3 (l0 := L) (by rw [← List.length_map (f := mk)]; omega)
    have hp := hl p (by simp)
    have hq := hl q (by simp)
    have hr := hl r (by simp)
    refine Ev.pos (by simp) (Ev.bind (number_ok (mk p) (by rw [size_B]; exact Nat.le_trans hp (by omega)) 2 (by omega)) ?_)
    refine Ev.pos (by simp) (Ev.bind (number_ok (mk q) (by rw [size_B]; exact Nat.le_trans hq (by omega)) 2 (by omega)) ?_)
    refine Ev.pos (by simp) (Ev.bind (number_ok (mk r) (by rw [size_B]; exact Nat.le_trans hr (by omega)) 2 (by omega)) ?_)
    exact Ev.now _
  · rw [len_short L e]; exact Ev.now _
theorem j2_ok {y mo d h mi s : Int} (hm : mo ≤ 100) : Ev (fun k => date_Parse.j2 k y mo d h mi s) (finOf (y, mo, d, h, mi, s)) := by
  refine Ev.step (fun _ => date_Parse.j2.eq_2 ..) ?_
  unfold date_date_whole.f
  by_cases q : 0 ≤ y ∧ 0 ≤ mo ∧ 0 ≤ d ∧ 0 ≤ h ∧ 0 ≤ mi ∧ 0 ≤ s
  · rw [if_pos q.1, if_pos q.2.1, if_pos q.2.2.1, if_pos q.2.2.2.1, if_pos q.2.2.2.2.1, decide_eq_true (show s ≥ 0 from q.2.2.2.2.2)]
    refine Ev.bnd rfl (Ev.pos rfl ?_)
    rw [wrap_id (x := mo + 1) (by omega) (by omega)]
    refine Ev.bind (date_Make_ok y (mo + 1) d h mi s) ?_
    have e : finOf (y, mo, d, h, mi, s) = tellM (makeOf y (mo + 1) d h mi s) := if_pos q
    rw [e]
    unfold tellM
    exact Ev.ite (fun c => Ev.tell (if_pos c).symm) (fun c => Ev.tell (if_neg c).symm)
  · have e : finOf (y, mo, d, h, mi, s) = (0, 4) := if_neg q
    rw [e]
    have w : (if y ≥ 0 then (if mo ≥ 0 then (if d ≥ 0 then (if h ≥ 0 then (if mi ≥ 0 then (some (decide (s ≥ 0), y, mo, d, h, mi, s)) else (some (false, y, mo, d, h, mi, s))) else (some (false, y, mo, d, h, mi, s))) else (some (false, y, mo, d, h, mi, s))) else (some (false, y, mo, d, h, mi, s))) else (some (false, y, mo, d, h, mi, s)) : Option (Bool × Int × Int × Int × Int × Int × Int)) = some (false, y, mo, d, h, mi, s) := by
      by_cases c1 : y ≥ 0
      · by_cases c2 : mo ≥ 0
        · by_cases c3 : d ≥ 0
          · by_cases c4 : h ≥ 0
            · by_cases c5 : mi ≥ 0
              · rw [if_pos c1, if_pos c2, if_pos c3, if_pos c4, if_pos c5, decide_eq_false (fun c6 => q ⟨c1, c2, c3, c4, c5, c6⟩)]
              · rw [if_pos c1, if_pos c2, if_pos c3, if_pos c4, if_neg c5]
            · rw [if_pos c1, if_pos c2, if_pos c3, if_neg c4]
          · rw [if_pos c1, if_pos c2, if_neg c3]
        · rw [if_pos c1, if_neg c2]
      · rw [if_neg c1]
    exact Ev.bnd w (Ev.neg (by simp) (Ev.now _))
theorem fixed_ok (p0 p1 p2 p3 p4 p5 : List UInt8) (h : p0.length ≤ 2000000 ∧ p1.length ≤ 2000000 ∧ p2.length ≤ 2000000 ∧ p3.length ≤ 2000000 ∧ p4.length ≤ 2000000 ∧ p5.length ≤ 2000000) :
    Ev (fun k => date_fixed.f k [mk p0, mk p1, mk p2, mk p3, mk p4, mk p5]) (fixY p0 p3 p5, mon p2, num p1 2, clkP p4) := by
  have r0 : rdOf ByteArray.empty [mk p0, mk p1, mk p2, mk p3, mk p4, mk p5] 0 = mk p0 := rfl
  have r1 : rdOf ByteArray.empty [mk p0, mk p1, mk p2, mk p3, mk p4, mk p5] 1 = mk p1 := rfl
  have r2 : rdOf ByteArray.empty [mk p0, mk p1, mk p2, mk p3, mk p4, mk p5] 2 = mk p2 := rfl
  have r3 : rdOf ByteArray.empty [mk p0, mk p1, mk p2, mk p3, mk p4, mk p5] 3 = mk p3 := rfl
  have r4 : rdOf ByteArray.empty [mk p0, mk p1, mk p2, mk p3, mk p4, mk p5] 4 = mk p4 := rfl
  have r5 : rdOf ByteArray.empty [mk p0, mk p1, mk p2, mk p3, mk p4, mk p5] 5 = mk p5 := rfl
  unfold date_fixed.f
  rw [r0, r1, r2, r3, r4, r5]
  refine Ev.pos (by simp) (Ev.bind (number_ok (mk p1) (by rw [mk_size]; omega) 2 (by omega)) ?_)
  refine Ev.pos (by simp) (Ev.bind (number_ok (mk p3) (by rw [mk_size]; omega) 4 (by omega)) ?_)
  refine Ev.pos (by simp) (Ev.bind (month_ok (mk p2) _ _ _ _ _ _) ?_)
  refine Ev.pos (by simp) (Ev.bind (clock_ok (mk p4) (by rw [mk_size]; omega) _ _ _ _ _ _) ?_)
  refine Ev.pos (by simp) ?_
  rw [mk_size, toList_B, B_mk, B_mk, B_mk, B_mk, B_mk]
  have bad : ¬ (p0.length = 4 ∧ p0[3]? = some 44 ∧ p0.take 3 ∈ dayL ∧ p5 = gmt) → Ev (fun _ : Nat => some ((-1 : Int), mon p2, num p1 2, clkP p4)) (fixY p0 p3 p5, mon p2, num p1 2, clkP p4) := fun q =>
    Ev.tell (by unfold fixY; rw [if_neg q])
  refine Ev.ite (fun c1 => Ev.pos (by omega) ?_) (fun c1 => bad (fun q => c1 (by omega)))
  obtain ⟨x, x1, x2⟩ := bt_ex (s := mk p0) (i := 3) (by rw [mk_size]; omega)
  rw [B_mk] at x1
  rw [show bt (mk p0) 3 = (x.toNat : Int) from x2]
  refine Ev.ite (fun c2 => Ev.pos (by decide) (Ev.pos (by omega) ?_)) (fun c2 => bad (fun q => c2 (by have := q.2.1; rw [x1] at this; rw [Option.some.inj this]; rfl)))
  have e44 : x = 44 := (u8_eq x 44 (by omega)).1 c2
  refine Ev.bnd (named_short _) ?_
  rw [B_to, B_mk]
  refine Ev.ite (fun c3 => Ev.pos (by simp) ?_) (fun c3 => bad (fun q => c3 (decide_eq_true q.2.2.1)))
  refine Ev.ite (fun c4 => ?_) (fun c4 => bad (fun q => c4 q.2.2.2))
  exact Ev.tell (by unfold fixY; rw [if_pos ⟨by omega, by rw [x1, e44], of_decide_eq_true c3, c4⟩])
theorem asctime_ok (s : ByteArray) (hs : s.size ≤ 2000000) : ∃ x, Ev (fun k => date_asctime.f k s) x ∧ finOf x = ascP (B s) ∧ x.2.1 ≤ 100 := by
  have low : ∀ b : Bool, b = true → Ev (fun k => date_asctime.j0 k s b (-1) 0 0 0 0 0) (-1, 0, 0, 0, 0, 0) := fun b hb => Ev.step (fun _ => date_asctime.j0.eq_2 ..) (Ev.pos hb (Ev.now _))
  by_cases g : ascG (B s)
  · have e : ascP (B s) = ascM (B s) := if_pos g
    rw [e]
    unfold ascM
    rw [← fin_made]
    refine ⟨_, ?_, rfl, by have := mon_facts (((B s).drop 4).take 3); show mon _ ≤ 100; omega⟩
    obtain ⟨g0, g1, g2, g3, g4, g5⟩ := g
    have hz : s.size = 24 := by rw [size_B]; exact g0
    unfold date_asctime.f
    refine Ev.pos (by omega) (Ev.pos (by omega) (Ev.pos (bt_of (i := 3) g1) (Ev.pos (by omega) (Ev.pos (bt_of (i := 7) g2) (Ev.pos (by omega) (Ev.pos (bt_of (i := 10) g3) (Ev.pos (by omega) (Ev.pos (bt_of (i := 19) g4) ?_))))))))
    refine Ev.pos (by decide) (Ev.pos (by omega) (Ev.bnd (named_short _) ?_))
    rw [B_to, decide_eq_true g5]
    refine Ev.step (fun _ => date_asctime.j0.eq_2 ..) (Ev.neg (by simp) (Ev.pos (by decide) (Ev.pos (by omega) (Ev.bind (month_ok _ _ _ _ _ _ _) ?_))))
    refine Ev.pos (by decide) (Ev.pos (by omega) (Ev.bind (number_ok _ (by rw [size_B, B_extract]; simp; omega) 2 (by omega)) (Ev.pos (by omega) ?_)))
    have b8 : bt s 8 = 32 ↔ (B s)[8]? = some 32 := by
      obtain ⟨c, c1, c2⟩ := bt_ex (s := s) (i := 8) (by omega)
      rw [show bt s 8 = (c.toNat : Int) from c2, c1]
      refine ⟨fun h => by rw [(u8_eq c 32 (by omega)).1 h]; rfl, fun h => by rw [Option.some.inj h]; rfl⟩
    have ex : ∀ a b : Nat, (s.extract a b).size ≤ 2000000 := fun a b => by rw [size_B, B_extract]; simp; omega
    by_cases c8 : bt s 8 = 32
    · have ed : ascD (B s) = num (((B s).drop 9).take 1) 1 := if_pos (b8.1 c8)
      refine Ev.pos c8 (Ev.pos (by decide) (Ev.bind (number_ok _ (by have := ex 9 10; omega) 1 (by omega)) (Ev.pos (by decide) (Ev.pos (by omega) (Ev.bind (clock_ok _ (ex 11 19) _ _ _ _ _ _) (Ev.pos (by omega) (Ev.bind (number_ok _ (by have := ex 20 s.size; omega) 4 (by omega)) (Ev.tell ?_))))))))
      have hb := B_from s 20
      rw [B_extract] at hb
      simp only [ed, B_extract, hb, Nat.reduceSub]
    · have ed : ascD (B s) = num (((B s).drop 8).take 2) 2 := if_neg (fun h => c8 (b8.2 h))
      refine Ev.neg c8 (Ev.pos (by decide) (Ev.pos (by omega) (Ev.bind (clock_ok _ (ex 11 19) _ _ _ _ _ _) (Ev.pos (by omega) (Ev.bind (number_ok _ (by have := ex 20 s.size; omega) 4 (by omega)) (Ev.tell ?_))))))
      have hb := B_from s 20
      rw [B_extract] at hb
      simp only [ed, B_extract, hb, Nat.reduceSub]
  · refine ⟨(-1, 0, 0, 0, 0, 0), ?_, ?_, by show (0 : Int) ≤ 100; decide⟩
    · unfold date_asctime.f
      refine Ev.ite (fun c1 => Ev.pos (by omega) ?_) (fun _ => low _ rfl)
      have hz : s.size = 24 := by omega
      have at_ : ∀ i : Nat, i < 24 → bt s (i : Int) = 32 → (B s)[i]? = some 32 := fun i hi h => by
        obtain ⟨c, d1, d2⟩ := bt_ex (s := s) (i := i) (by omega)
        rw [d2] at h
        rw [d1, (u8_eq c 32 (by omega)).1 h]; rfl
      refine Ev.ite (fun c2 => Ev.pos (by omega) ?_) (fun _ => low _ rfl)
      refine Ev.ite (fun c3 => Ev.pos (by omega) ?_) (fun _ => low _ rfl)
      refine Ev.ite (fun c4 => Ev.pos (by omega) ?_) (fun _ => low _ rfl)
      refine Ev.ite (fun c5 => ?_) (fun _ => low _ rfl)
      refine Ev.pos (by decide) (Ev.pos (by omega) (Ev.bnd (named_short _) ?_))
      rw [B_to]
      refine low _ ?_
      rw [decide_eq_false (fun q => g ⟨by rw [← size_B]; exact hz, at_ 3 (by omega) c2, at_ 7 (by omega) c3, at_ 10 (by omega) c4, at_ 19 (by omega) c5, q⟩)]
      rfl
    · exact (if_neg (fun q => absurd q.1 (by decide))).trans (if_neg g).symm
theorem obs_short (p0 p2 p3 : List UInt8) (yr : Int) (L : List (List UInt8)) : ¬ ((L.map mk).length : Int) = 3 → obsQ p0 p2 p3 yr L = (0, 4) := fun h => by
  match L, h with
  | [a, b, c], h => exact absurd rfl h
  | [], _ => rfl
  | [_], _ => rfl
  | [_, _], _ => rfl
  | _ :: _ :: _ :: _ :: _, _ => rfl
theorem obsolete_ok (p0 p1 p2 p3 : List UInt8) (h : p0.length ≤ 2000000 ∧ p1.length ≤ 2000000 ∧ p2.length ≤ 2000000 ∧ p3.length ≤ 2000000) {t yr : Int} (hy : YR t yr) :
    ∃ x, Ev (fun k => date_obsolete.f k [mk p0, mk p1, mk p2, mk p3] t) x ∧ finOf x = obsP p0 p1 p2 p3 yr ∧ x.2.1 ≤ 100 := by
  have r0 : rdOf ByteArray.empty [mk p0, mk p1, mk p2, mk p3] 0 = mk p0 := rfl
  have r1 : rdOf ByteArray.empty [mk p0, mk p1, mk p2, mk p3] 1 = mk p1 := rfl
  have r2 : rdOf ByteArray.empty [mk p0, mk p1, mk p2, mk p3] 2 = mk p2 := rfl
  have r3 : rdOf ByteArray.empty [mk p0, mk p1, mk p2, mk p3] 3 = mk p3 := rfl
  have cut : strings_CutSuffix.f (mk p0) (⟨#[44]⟩ : ByteArray) = some (⟨(Lib.trimSuffix p0 [44]).toArray⟩, endsC p0) := by
    unfold strings_CutSuffix.f
    rw [if_pos (by rw [mk_size]; omega)]
    rfl
  have hl := spl_len 45 p1
  unfold date_obsolete.f obsP
  rw [r0, r1, r3]
  generalize hL : spl 45 p1 = L at hl
  have hS : strings_Split.f (mk p1) (⟨#[45]⟩ : ByteArray) = some (L.map mk) := by rw [Split_ok (mk p1) 45 (by rw [mk_size]; omega), B_mk, hL]
  have low : ∀ b : Bool, b = true → Ev (fun k => date_obsolete.j0 k [mk p0, mk p1, mk p2, mk p3] t (L.map mk) b (-1) 0 0 0 0 0) (-1, 0, 0, 0, 0, 0) := fun b hb => Ev.step (fun _ => date_obsolete.j0.eq_2 ..) (Ev.pos hb (Ev.now _))
  have bad : obsQ p0 p2 p3 yr L = (0, 4) → finOf (-1, 0, 0, 0, 0, 0) = obsQ p0 p2 p3 yr L ∧ ((-1, 0, 0, 0, 0, 0) : Int × Int × Int × Int × Int × Int).2.1 ≤ 100 := fun q => ⟨by rw [q]; exact if_neg (fun q => absurd q.1 (by decide)), by show (0 : Int) ≤ 100; decide⟩
  by_cases c1 : endsC p0 = true
  · have ct : (⟨(Lib.trimSuffix p0 [44]).toArray⟩ : ByteArray) = mk (p0.take (p0.length - 1)) := by
      unfold Lib.trimSuffix
      rw [if_pos (show Lib.hasSuffix p0 [44] = true from c1)]; rfl
    rw [ct] at cut
    by_cases c2 : p0.take (p0.length - 1) ∈ longL
    · by_cases c3 : ((L.map mk).length : Int) = 3
      · obtain ⟨q0, q1, q2, rfl⟩ := len3 (l0 := L) (by rw [← List.length_map (f := mk)]; omega)
        have e0 := hl q0 (by simp)
        have e1 := hl q1 (by simp)
        have e2 := hl q2 (by simp)
        by_cases c4 : p3 = gmt
        · refine ⟨(obsY q2 yr, mon q1, num q0 2, clkP p2), ?_, ?_, by have := mon_facts q1; show mon _ ≤ 100; omega⟩
          · refine Ev.pos (by simp) (Ev.bnd cut (Ev.pos (by simp) (Ev.bnd hS (Ev.pos c1 (Ev.bnd (named_long _) (Ev.pos (by rw [B_mk]; exact decide_eq_true c2) (Ev.pos rfl (Ev.pos (by simp) ?_))))))))
            rw [toList_B, B_mk, c4]
            refine Ev.step (fun _ => date_obsolete.j0.eq_2 ..) (Ev.neg (by decide) (Ev.pos (by simp) (Ev.bind (number_ok (mk q0) (by rw [mk_size]; omega) 2 (by omega)) ?_)))
            refine Ev.pos (by simp) (Ev.bind (month_ok (mk q1) _ _ _ _ _ _) (Ev.pos (by simp) (Ev.bind (clock_ok (mk p2) (by rw [mk_size]; omega) _ _ _ _ _ _) ?_)))
            refine Ev.pos (by simp) (Ev.bind (number_ok (mk q2) (by rw [mk_size]; omega) 2 (by omega)) ?_)
            rw [B_mk, B_mk, B_mk, B_mk]
            unfold obsY
            by_cases c5 : 0 ≤ num q2 2
            · rw [if_pos c5]
              exact Ev.pos c5 (Ev.bind (near_ok c5 (by have := (num_facts c5).2.2; omega) hy) (Ev.now _))
            · rw [if_neg c5]
              exact Ev.neg c5 (Ev.now _)
          · rw [fin_made]
            exact (if_pos ⟨c1, c2, c4⟩).symm
        · refine ⟨_, ?_, bad (if_neg (fun q => c4 q.2.2))⟩
          refine Ev.pos (by simp) (Ev.bnd cut (Ev.pos (by simp) (Ev.bnd hS (Ev.pos c1 (Ev.bnd (named_long _) (Ev.pos (by rw [B_mk]; exact decide_eq_true c2) (Ev.pos rfl (Ev.pos (by simp) (low _ ?_)))))))))
          rw [toList_B, B_mk]
          exact bne_iff_ne.2 c4
      · refine ⟨_, ?_, bad (obs_short p0 p2 p3 yr L c3)⟩
        exact Ev.pos (by simp) (Ev.bnd cut (Ev.pos (by simp) (Ev.bnd hS (Ev.pos c1 (Ev.bnd (named_long _) (Ev.pos (by rw [B_mk]; exact decide_eq_true c2) (Ev.neg c3 (low _ rfl))))))))
    · refine ⟨_, ?_, bad ?_⟩
      · exact Ev.pos (by simp) (Ev.bnd cut (Ev.pos (by simp) (Ev.bnd hS (Ev.pos c1 (Ev.bnd (named_long _) (Ev.neg (by rw [B_mk, decide_eq_false c2]; simp) (low _ rfl)))))))
      · by_cases c3 : ((L.map mk).length : Int) = 3
        · obtain ⟨q0, q1, q2, rfl⟩ := len3 (l0 := L) (by rw [← List.length_map (f := mk)]; omega)
          exact if_neg (fun q => c2 q.2.1)
        · exact obs_short p0 p2 p3 yr L c3
  · refine ⟨_, ?_, bad ?_⟩
    · exact Ev.pos (by simp) (Ev.bnd cut (Ev.pos (by simp) (Ev.bnd hS (Ev.neg c1 (low _ rfl)))))
    · by_cases c3 : ((L.map mk).length : Int) = 3
      · obtain ⟨q0, q1, q2, rfl⟩ := len3 (l0 := L) (by rw [← List.length_map (f := mk)]; omega)
        exact if_neg (fun q => c1 q.1)
      · exact obs_short p0 p2 p3 yr L c3
theorem Suffix_ok (p : List UInt8) (h : p.length ≤ 2000000) : strings_HasSuffix.f (mk p) (⟨#[44]⟩ : ByteArray) = some (endsC p) := by
  unfold strings_HasSuffix.f
  rw [if_pos (by rw [mk_size]; omega)]; rfl
theorem DParse_ok (s : ByteArray) (hs : s.size ≤ 2000000) {t yr : Int} (hy : YR t yr) : Ev (fun k => date_Parse.f k s t) (parseP (B s) yr) := by
  have hl := spl_len 32 (B s)
  rw [← size_B] at hl
  obtain ⟨x, ax, fx, mx⟩ := asctime_ok s hs
  have asc : ∀ L : List ByteArray, Ev (fun k => date_Parse.j1 k s t L false) (ascP (B s)) := fun L => by
    refine Ev.step (fun _ => date_Parse.j1.eq_2 ..) (Ev.neg (by simp) (Ev.bind ax ?_))
    rw [← fx]
    exact j2_ok mx
  have asc0 : ∀ L : List ByteArray, ¬ (L.length : Int) = 4 → Ev (fun k => date_Parse.j0 k s t L false) (ascP (B s)) := fun L h =>
    Ev.step (fun _ => date_Parse.j0.eq_2 ..) (Ev.neg (by simp) (Ev.neg h (asc L)))
  have ascF : ∀ L : List (List UInt8), ¬ ((L.map mk).length : Int) = 6 → ¬ ((L.map mk).length : Int) = 4 → Ev (fun k => if ((L.map mk).length : Int) = 6 then (if 0 < ((L.map mk).length : Int) then ((strings_HasSuffix.f (rdOf ByteArray.empty (L.map mk) 0) (⟨#[44]⟩ : ByteArray)).bind fun t223 => (date_Parse.j0 k s t (L.map mk) t223)) else (none)) else (date_Parse.j0 k s t (L.map mk) false)) (ascP (B s)) := fun L h6 h4 => Ev.neg h6 (asc0 _ h4)
  unfold date_Parse.f parseP
  refine Ev.bnd (Split_ok s 32 (by omega)) ?_
  generalize spl 32 (B s) = L at hl
  match L, hl with
  | [p0, p1, p2, p3, p4, p5], hl =>
    have e0 := hl p0 (by simp)
    have e1 := hl p1 (by simp)
    have e2 := hl p2 (by simp)
    have e3 := hl p3 (by simp)
    have e4 := hl p4 (by simp)
    have e5 := hl p5 (by simp)
    refine Ev.pos rfl (Ev.pos (by simp) (Ev.bnd (Suffix_ok p0 (by omega)) ?_))
    show Ev _ (if endsC p0 = true then fixP p0 p1 p2 p3 p4 p5 else ascP (B s))
    by_cases c : endsC p0 = true
    · rw [if_pos c]
      refine Ev.step (fun _ => date_Parse.j0.eq_2 ..) (Ev.pos c (Ev.bind (fixed_ok p0 p1 p2 p3 p4 p5 ⟨by omega, by omega, by omega, by omega, by omega, by omega⟩) ?_))
      unfold fixP
      rw [← fin_made]
      exact j2_ok (by show mon p2 ≤ 100; have := mon_facts p2; omega)
    · rw [if_neg c]
      have c' : endsC p0 = false := by simpa using c
      rw [c']
      exact asc0 _ (by simp)
  | [p0, p1, p2, p3], hl =>
    have e0 := hl p0 (by simp)
    have e1 := hl p1 (by simp)
    have e2 := hl p2 (by simp)
    have e3 := hl p3 (by simp)
    refine Ev.neg (by simp) (Ev.step (fun _ => date_Parse.j0.eq_2 ..) (Ev.neg (by simp) (Ev.pos rfl (Ev.pos (by simp) (Ev.bnd (Suffix_ok p0 (by omega)) ?_)))))
    show Ev _ (if endsC p0 = true then obsP p0 p1 p2 p3 yr else ascP (B s))
    by_cases c : endsC p0 = true
    · rw [if_pos c]
      obtain ⟨z, az, fz, mz⟩ := obsolete_ok p0 p1 p2 p3 ⟨by omega, by omega, by omega, by omega⟩ hy
      refine Ev.step (fun _ => date_Parse.j1.eq_2 ..) (Ev.pos c (Ev.bind az ?_))
      rw [← fz]
      exact j2_ok mz
    · rw [if_neg c]
      have c' : endsC p0 = false := by simpa using c
      rw [c']
      exact asc _
  | [], hl => exact ascF [] (by simp) (by simp)
  | [a], hl => exact ascF [a] (by simp) (by simp)
  | [a, b], hl => exact ascF [a, b] (by simp) (by simp)
  | [a, b, c], hl => exact ascF [a, b, c] (by simp) (by simp)
  | [a, b, c, d, e], hl => exact ascF [a, b, c, d, e] (by simp) (by simp)
  | a :: b :: c :: d :: e :: f :: g :: r, hl => exact ascF (a :: b :: c :: d :: e :: f :: g :: r) (by simp only [List.map_cons, List.length_cons]; omega) (by simp only [List.map_cons, List.length_cons]; omega)
theorem parseQ6 (l p0 p1 p2 p3 p4 p5 : List UInt8) (yr : Int) : parseQ l yr [p0, p1, p2, p3, p4, p5] = if endsC p0 = true then fixP p0 p1 p2 p3 p4 p5 else ascP l := rfl
theorem parseQ4 (l p0 p1 p2 p3 : List UInt8) (yr : Int) : parseQ l yr [p0, p1, p2, p3] = if endsC p0 = true then obsP p0 p1 p2 p3 yr else ascP l := rfl
theorem obsQ3 (p0 p2 p3 q0 q1 q2 : List UInt8) (yr : Int) : obsQ p0 p2 p3 yr [q0, q1, q2] = if endsC p0 = true ∧ p0.take (p0.length - 1) ∈ longL ∧ p3 = gmt then madeOf (obsY q2 yr) (mon q1) (num q0 2) (clkR p2) else (0, 4) := rfl
theorem ends_no {p : List UInt8} (h : (44 : UInt8) ∉ p) : endsC p = false := by
  unfold endsC Lib.hasSuffix
  rw [Bool.eq_false_iff]
  intro e
  obtain ⟨t, ht⟩ := List.isSuffixOf_iff_suffix.1 e
  exact h (by rw [← ht]; simp)
theorem ends_of (p : List UInt8) : endsC (p ++ [44]) = true := by
  unfold endsC Lib.hasSuffix
  exact List.isSuffixOf_iff_suffix.2 ⟨p, rfl⟩
theorem ends_split {p : List UInt8} (h : endsC p = true) : p = p.take (p.length - 1) ++ [44] := by
  unfold endsC Lib.hasSuffix at h
  obtain ⟨t, ht⟩ := List.isSuffixOf_iff_suffix.1 h
  rw [← ht]
  simp
theorem made_or {y mo d : Int} {c : Int × Int × Int × Bool} : madeOf y mo d c = (0, 4) ∨ okM y mo d c := by
  by_cases h : okM y mo d c
  · exact .inr h
  · exact .inl (made_no h)
/-- What the form of Print holds, put together and read by places. -/
theorem imf_at {n d m y t : List UInt8} (hn : n.length = 3) (hd : d.length = 2) (hm : m.length = 3) (hy : y.length = 4) (ht : t.length = 8) (hN : n ∈ dayL) :
    imfG ((n ++ [44]) ++ 32 :: (d ++ 32 :: (m ++ 32 :: (y ++ 32 :: (t ++ 32 :: gmt))))) ∧ imfM ((n ++ [44]) ++ 32 :: (d ++ 32 :: (m ++ 32 :: (y ++ 32 :: (t ++ 32 :: gmt))))) = madeOf (num y 4) (mon m) (num d 2) (clkR t) := by
  obtain ⟨n0, n1, n2, rfl⟩ := len3 hn
  obtain ⟨d0, d1, rfl⟩ := len2 hd
  obtain ⟨m0, m1, m2, rfl⟩ := len3 hm
  obtain ⟨y0, y1, y2, y3, rfl⟩ := len4 hy
  obtain ⟨t0, t1, t2, t3, t4, t5, t6, t7, rfl⟩ := len8 ht
  exact ⟨⟨rfl, rfl, rfl, rfl, rfl, rfl, hN⟩, rfl⟩
theorem imf_shape {l : List UInt8} (h : imfG l) : ∃ n d m y t : List UInt8, l = (n ++ [44]) ++ 32 :: (d ++ 32 :: (m ++ 32 :: (y ++ 32 :: (t ++ 32 :: gmt)))) ∧ n.length = 3 ∧ d.length = 2 ∧ m.length = 3 ∧ y.length = 4 ∧ t.length = 8 ∧ n ∈ dayL := by
  obtain ⟨h0, h1, h2, h3, h4, h5, h6⟩ := h
  obtain ⟨a0, a1, a2, a3, a4, a5, a6, a7, a8, a9, a10, a11, a12, a13, a14, a15, a16, a17, a18, a19, a20, a21, a22, a23, a24, a25, a26, a27, a28, rfl⟩ := len29 h0
  have e1 : [a3, a4] = [44, 32] := h1
  have e5 : [a25, a26, a27, a28] = [32, 71, 77, 84] := h5
  simp only [List.cons.injEq, and_true] at e1 e5
  obtain ⟨rfl, rfl⟩ := e1
  obtain ⟨rfl, rfl, rfl, rfl⟩ := e5
  obtain rfl : a7 = 32 := Option.some.inj h2
  obtain rfl : a11 = 32 := Option.some.inj h3
  obtain rfl : a16 = 32 := Option.some.inj h4
  exact ⟨[a0, a1, a2], [a5, a6], [a8, a9, a10], [a12, a13, a14, a15], [a17, a18, a19, a20, a21, a22, a23, a24], rfl, rfl, rfl, rfl, rfl, rfl, h6⟩
theorem rfc_at {d m y t : List UInt8} (hd : d.length = 2) (hm : m.length = 3) (hy : y.length = 2) (ht : t.length = 8) (yr : Int) :
    rfcG (44 :: 32 :: ((d ++ 45 :: (m ++ 45 :: y)) ++ 32 :: (t ++ 32 :: gmt))) ∧ rfcM (44 :: 32 :: ((d ++ 45 :: (m ++ 45 :: y)) ++ 32 :: (t ++ 32 :: gmt))) yr = madeOf (rfcY y yr) (mon m) (num d 2) (clkR t) := by
  obtain ⟨d0, d1, rfl⟩ := len2 hd
  obtain ⟨m0, m1, m2, rfl⟩ := len3 hm
  obtain ⟨y0, y1, rfl⟩ := len2 hy
  obtain ⟨t0, t1, t2, t3, t4, t5, t6, t7, rfl⟩ := len8 ht
  exact ⟨⟨rfl, rfl, rfl, rfl, rfl, rfl⟩, rfl⟩
theorem rfc_shape {r : List UInt8} (h : rfcG r) : ∃ (b : UInt8) (d m y t : List UInt8), r = b :: 32 :: ((d ++ 45 :: (m ++ 45 :: y)) ++ 32 :: (t ++ 32 :: gmt)) ∧ d.length = 2 ∧ m.length = 3 ∧ y.length = 2 ∧ t.length = 8 := by
  obtain ⟨h0, h1, h2, h3, h4, h5⟩ := h
  obtain ⟨a0, a1, a2, a3, a4, a5, a6, a7, a8, a9, a10, a11, a12, a13, a14, a15, a16, a17, a18, a19, a20, a21, a22, a23, rfl⟩ := len24 h0
  have e5 : [a20, a21, a22, a23] = [32, 71, 77, 84] := h5
  simp only [List.cons.injEq, and_true] at e5
  obtain ⟨rfl, rfl, rfl, rfl⟩ := e5
  obtain rfl : a1 = 32 := Option.some.inj h1
  obtain rfl : a4 = 45 := Option.some.inj h2
  obtain rfl : a8 = 45 := Option.some.inj h3
  obtain rfl : a11 = 32 := Option.some.inj h4
  exact ⟨a0, [a2, a3], [a5, a6, a7], [a9, a10], [a12, a13, a14, a15, a16, a17, a18, a19], rfl, rfl, rfl, rfl, rfl⟩
theorem com_at : ∀ l : List UInt8, com l < l.length → ∃ n r, l = n ++ 44 :: r ∧ (44 : UInt8) ∉ n ∧ com l = n.length
  | [], h => by simp [com] at h
  | b :: t, h => by
    by_cases e : b = 44
    · exact ⟨[], t, by rw [e]; rfl, by simp, by simp [com, e]⟩
    · rw [com, if_neg e] at h ⊢
      obtain ⟨n, r, h1, h2, h3⟩ := com_at t (by simpa using h)
      refine ⟨b :: n, r, by rw [h1]; rfl, ?_, by simp [h3]⟩
      intro q
      rcases List.mem_cons.1 q with q | q
      · exact e q.symm
      · exact h2 q
theorem take_app {α : Type} (n r : List α) : (n ++ r).take n.length = n := by simp
theorem drop_app {α : Type} (n r : List α) : (n ++ r).drop n.length = r := by simp
theorem rfcY_ok {q : List UInt8} {yr mo d : Int} {c : Int × Int × Int × Bool} : madeOf (rfcY q yr) mo d c = madeOf (obsY q yr) mo d c := by
  unfold rfcY obsY
  by_cases h : 0 ≤ num q 2
  · rw [if_pos h, if_pos h]
  · rw [if_neg h, if_neg h, made_no (fun g => h g.2.1), made_no (fun g => absurd g.2.1 (by omega))]
/-- What the pieces tell, the places tell. -/
theorem P_in_R (l : List UInt8) (yr : Int) : parseP l yr = (0, 4) ∨ parseP l yr = parseR l yr := by
  have hasc : ascP l = (0, 4) ∨ ascP l = parseR l yr := by
    unfold ascP
    by_cases g : ascG l
    · rw [if_pos g]
      refine .inr ?_
      unfold parseR
      rw [if_neg (fun q : imfG l => by have := q.1; have := g.1; omega), if_pos g]
    · rw [if_neg g]; exact .inl rfl
  unfold parseP
  generalize hL : spl 32 l = L
  match L, hL with
  | [p0, p1, p2, p3, p4, p5], hL =>
    rw [parseQ6]
    by_cases e : endsC p0 = true
    · rw [if_pos e]
      unfold fixP
      rcases made_or (y := fixY p0 p3 p5) (mo := mon p2) (d := num p1 2) (c := clkR p4) with h | h
      · exact .inl h
      · refine .inr ?_
        obtain ⟨h1, h2, h3, h4⟩ := h
        unfold fixY at h2 ⊢
        by_cases g : p0.length = 4 ∧ p0[3]? = some 44 ∧ p0.take 3 ∈ dayL ∧ p5 = gmt
        · rw [if_pos g] at h2 ⊢
          obtain ⟨g1, g2, g3, rfl⟩ := g
          obtain ⟨a0, a1, a2, a3, rfl⟩ := len4 g1
          obtain rfl : a3 = 44 := Option.some.inj g2
          obtain ⟨el, -⟩ := spl6 hL
          have m3 := (monL_facts _ ((mon_facts p2).1.1 h3)).1
          have z := imf_at (n := [a0, a1, a2]) rfl (num_facts h4).1 m3 (num_facts h2).1 (clk_len h1) g3
          have el' : l = ([a0, a1, a2] ++ [44]) ++ 32 :: (p1 ++ 32 :: (p2 ++ 32 :: (p3 ++ 32 :: (p4 ++ 32 :: gmt)))) := el
          unfold parseR
          rw [el', if_pos z.1, z.2]
        · rw [if_neg g] at h2; omega
    · rw [if_neg e]; exact hasc
  | [p0, p1, p2, p3], hL =>
    rw [parseQ4]
    by_cases e : endsC p0 = true
    · rw [if_pos e]
      unfold obsP
      generalize hQ : spl 45 p1 = Q
      match Q, hQ with
      | [q0, q1, q2], hQ =>
        rw [obsQ3]
        by_cases g : endsC p0 = true ∧ p0.take (p0.length - 1) ∈ longL ∧ p3 = gmt
        · rw [if_pos g]
          rcases made_or (y := obsY q2 yr) (mo := mon q1) (d := num q0 2) (c := clkR p2) with h | h
          · exact .inl h
          · refine .inr ?_
            obtain ⟨h1, h2, h3, h4⟩ := h
            obtain ⟨-, g2, rfl⟩ := g
            have hp0 := ends_split e
            generalize p0.take (p0.length - 1) = n at hp0 g2
            obtain ⟨e1, -⟩ := spl4 hL
            obtain ⟨e2, -⟩ := spl3 hQ
            have hy : 0 ≤ num q2 2 := by
              refine Int.not_lt.1 (fun c => ?_)
              unfold obsY at h2
              rw [if_neg (by omega)] at h2
              omega
            have m3 := (monL_facts _ ((mon_facts q1).1.1 h3)).1
            have z := rfc_at (num_facts h4).1 m3 (num_facts hy).1 (clk_len h1) yr
            obtain ⟨n6, n9, -, n44⟩ := longL_facts n g2
            have el : l = n ++ 44 :: 32 :: ((q0 ++ 45 :: (q1 ++ 45 :: q2)) ++ 32 :: (p2 ++ 32 :: gmt)) := by
              rw [e1, hp0, e2]; simp
            have hc : com l = n.length := by rw [el]; exact com_of n _ n44
            have hl : l.length = n.length + 24 := by rw [el, List.length_append, z.1.1]
            have hd : l.drop (com l) = 44 :: 32 :: ((q0 ++ 45 :: (q1 ++ 45 :: q2)) ++ 32 :: (p2 ++ 32 :: gmt)) := by rw [hc, el]; exact drop_app n _
            have hk : l.take (com l) = n := by rw [hc, el]; exact take_app n _
            unfold parseR
            rw [if_neg (fun q : imfG l => by have := q.1; omega), if_neg (fun q : ascG l => by have := q.1; omega), if_pos (show obsG l from ⟨by omega, by rw [hk]; exact g2, by rw [hd]; exact z.1⟩), hd, z.2, rfcY_ok]
        · rw [if_neg g]; exact .inl rfl
      | [], hQ => exact .inl rfl
      | [_], hQ => exact .inl rfl
      | [_, _], hQ => exact .inl rfl
      | _ :: _ :: _ :: _ :: _, hQ => exact .inl rfl
    · rw [if_neg e]; exact hasc
  | [], hL => exact hasc
  | [_], hL => exact hasc
  | [_, _], hL => exact hasc
  | [_, _, _], hL => exact hasc
  | [_, _, _, _, _], hL => exact hasc
  | _ :: _ :: _ :: _ :: _ :: _ :: _ :: _, hL => exact hasc
theorem parseQ_asc (l : List UInt8) (yr : Int) : ∀ L : List (List UInt8), (∀ p, L.head? = some p → endsC p = false) → parseQ l yr L = ascP l := by
  intro L h
  match L, h with
  | [p0, p1, p2, p3, p4, p5], h => rw [parseQ6, h p0 rfl]; rfl
  | [p0, p1, p2, p3], h => rw [parseQ4, h p0 rfl]; rfl
  | [], h => rfl
  | [_], h => rfl
  | [_, _], h => rfl
  | [_, _, _], h => rfl
  | [_, _, _, _, _], h => rfl
  | _ :: _ :: _ :: _ :: _ :: _ :: _ :: _, h => rfl
/-- What the places tell, the pieces tell. -/
theorem R_in_P (l : List UInt8) (yr : Int) : parseR l yr = (0, 4) ∨ parseP l yr = parseR l yr := by
  unfold parseR
  by_cases g : imfG l
  · rw [if_pos g]
    obtain ⟨n, d, m, y, t, rfl, hn, hd, hm, hy, ht, hN⟩ := imf_shape g
    have z := imf_at hn hd hm hy ht hN
    rw [z.2]
    rcases made_or (y := num y 4) (mo := mon m) (d := num d 2) (c := clkR t) with h | h
    · exact .inl h
    · refine .inr ?_
      obtain ⟨h1, h2, h3, h4⟩ := h
      have a0 := (dayL_facts n hN).2.1
      have a1 := digit_ne (num_facts h4).2.1 32 (by decide)
      have a2 := (monL_facts _ ((mon_facts m).1.1 h3)).2.1
      have a3 := digit_ne (num_facts h2).2.1 32 (by decide)
      have a4 := clk_no t h1 32 (by decide)
      unfold parseP
      rw [spl6' (p0 := n ++ [44]) (by simp [a0]) a1 a2 a3 a4 (by decide)]
      rw [parseQ6, if_pos (ends_of n)]
      unfold fixP fixY
      obtain ⟨n0, n1, n2, rfl⟩ := len3 hn
      rw [if_pos ⟨rfl, rfl, hN, rfl⟩]
  · rw [if_neg g]
    by_cases g2 : ascG l
    · rw [if_pos g2]
      refine .inr ?_
      have e : ascP l = ascM l := if_pos g2
      rw [← e]
      unfold parseP
      refine parseQ_asc l yr _ (fun p hp => ?_)
      obtain ⟨b0, b1, -, -, -, b5⟩ := g2
      obtain ⟨q1, q2, q3⟩ := dayL_facts _ b5
      have el : l = l.take 3 ++ 32 :: l.drop 4 := by
        have h3 : 3 < l.length := by omega
        have : l[3]'h3 = 32 := by rw [List.getElem?_eq_getElem h3] at b1; exact Option.some.inj b1
        rw [← this, ← List.drop_eq_getElem_cons h3, List.take_append_drop]
      rw [el, spl_hd 32 _ _ q2] at hp
      rw [← Option.some.inj hp]
      exact ends_no q3
    · rw [if_neg g2]
      by_cases g3 : obsG l
      · rw [if_pos g3]
        obtain ⟨c1, c2, c3⟩ := g3
        obtain ⟨n, r, el, n44, hc⟩ := com_at l c1
        have hk : l.take (com l) = n := by rw [hc, el]; exact take_app n _
        have hd : l.drop (com l) = 44 :: r := by rw [hc, el]; exact drop_app n _
        rw [hk] at c2
        rw [hd] at c3 ⊢
        obtain ⟨b, d, m, y, t, er, hd2, hm, hy, ht⟩ := rfc_shape c3
        injection er with e1 e2
        subst e1
        subst e2
        have z := rfc_at hd2 hm hy ht yr
        rw [z.2, rfcY_ok]
        rcases made_or (y := obsY y yr) (mo := mon m) (d := num d 2) (c := clkR t) with h | h
        · exact .inl h
        · refine .inr ?_
          obtain ⟨h1, h2, h3, h4⟩ := h
          have hyy : 0 ≤ num y 2 := by
            refine Int.not_lt.1 (fun c => ?_)
            unfold obsY at h2
            rw [if_neg (by omega)] at h2
            omega
          obtain ⟨n6, n9, n32, -⟩ := longL_facts n c2
          have dm := digit_ne (num_facts h4).2.1
          have dy := digit_ne (num_facts hyy).2.1
          have mm := monL_facts _ ((mon_facts m).1.1 h3)
          have a2 := clk_no t h1 32 (by decide)
          have el' : l = (n ++ [44]) ++ 32 :: ((d ++ 45 :: (m ++ 45 :: y)) ++ 32 :: (t ++ 32 :: gmt)) := by rw [el]; simp
          unfold parseP
          rw [el', spl4' (p0 := n ++ [44]) (by simp [n32]) (by simp [dm 32 (by decide), dy 32 (by decide), mm.2.1]) a2 (by decide)]
          rw [parseQ4, if_pos (ends_of n)]
          unfold obsP
          rw [spl3' (dm 45 (by decide)) mm.2.2 (dy 45 (by decide))]
          rw [obsQ3, if_pos ⟨ends_of n, by simpa using c2, rfl⟩]
      · rw [if_neg g3]; exact .inl rfl
theorem parse_eq (l : List UInt8) (yr : Int) : parseP l yr = parseR l yr := by
  rcases P_in_R l yr with h | h
  · rcases R_in_P l yr with q | q
    · rw [h, q]
    · exact q
  · exact h
def cl (n : Int) : Int := mn (mx n 0) 2147483648
theorem cl_rng (n : Int) : 0 ≤ cl n ∧ cl n ≤ 2147483648 := by unfold cl mn mx; (repeat' split) <;> omega
theorem cl_id {n : Int} (h0 : 0 ≤ n) (h1 : n ≤ 2147483648) : cl n = n := by unfold cl mn mx; (repeat' split) <;> omega
theorem cl_mono {a b : Int} (h : a ≤ b) : cl a ≤ cl b := by unfold cl mn mx; (repeat' split) <;> omega
theorem cl_add {x y : Int} (hx : 0 ≤ x) (hy : 0 ≤ y) : cl (x + y) ≤ cl x + cl y := by unfold cl mn mx; (repeat' split) <;> omega
theorem cl_lip {u v w : Int} (h : u ≤ v + w) (hw : 0 ≤ w) : cl u ≤ cl v + w := by unfold cl mn mx; (repeat' split) <;> omega
def adS (a b : Int) : Int := cl (cl a + cl b)
def suS (a b : Int) : Int := cl (cl a - cl b)
theorem Clip_cl (n : Int) : bits_Clip.f n = some (cl n) := rfl
theorem Add_cl (a b : Int) : bits_Add.f a b = some (adS a b) := by
  have := cl_rng a
  have := cl_rng b
  unfold bits_Add.f adS
  rw [Clip_cl, Clip_cl]
  simp only [Option.bind_some]
  rw [Clip_cl, wrap_id (by omega) (by omega)]
  rfl
theorem Sub_cl (a b : Int) : bits_Sub.f a b = some (suS a b) := by
  have := cl_rng a
  have := cl_rng b
  unfold bits_Sub.f suS
  rw [Clip_cl, Clip_cl]
  simp only [Option.bind_some]
  rw [Clip_cl, wrap_id (by omega) (by omega)]
  rfl
theorem sec_rng : ∀ (l : List UInt8) (n m : Int), 0 ≤ n → n ≤ 2147483648 → secVal l n = some m → 0 ≤ m ∧ m ≤ 2147483648
  | [], n, m, h0, h1, h => by injection h with h; omega
  | c :: t, n, m, h0, h1, h => by
    unfold secVal at h
    split at h
    · refine sec_rng t _ m ?_ ?_ h <;> (unfold mn; split <;> omega)
    · cases h
theorem secs_rng (l : List UInt8) : 0 ≤ (secsOf l).1 ∧ (secsOf l).1 ≤ 2147483648 := by
  unfold secsOf
  split
  · exact ⟨by decide, by decide⟩
  · split
    · rename_i m hm; exact sec_rng l 0 m (by omega) (by omega) hm
    · exact ⟨by decide, by decide⟩
def CR (c : Own.Ctl) : Prop := (0 ≤ c.n0 ∧ c.n0 ≤ 2147483648) ∧ (0 ≤ c.n1 ∧ c.n1 ≤ 2147483648)
theorem least_rng {h : Bool} {x n : Int} (hx : 0 ≤ x ∧ x ≤ 2147483648) (hn : 0 ≤ n ∧ n ≤ 2147483648) : 0 ≤ Own.leastOf h x n ∧ Own.leastOf h x n ≤ 2147483648 := by
  unfold Own.leastOf
  (repeat' split) <;> omega
theorem CR.act {c : Own.Ctl} (h : CR c) (l : List UInt8) : CR (actL c l) := by
  have hn : 0 ≤ (dirOf l).2.2.1 ∧ (dirOf l).2.2.1 ≤ 2147483648 := secs_rng _
  refine ⟨?_, ?_⟩
  · show 0 ≤ (if ((dirOf l).1 == 10) = true then Own.leastOf c.h0 c.n0 (dirOf l).2.2.1 else c.n0) ∧ _
    show _ ∧ (if ((dirOf l).1 == 10) = true then Own.leastOf c.h0 c.n0 (dirOf l).2.2.1 else c.n0) ≤ 2147483648
    split
    · exact least_rng h.1 hn
    · exact h.1
  · show 0 ≤ (if ((dirOf l).1 == 11) = true then Own.leastOf c.h1 c.n1 (dirOf l).2.2.1 else c.n1) ∧ _
    show _ ∧ (if ((dirOf l).1 == 11) = true then Own.leastOf c.h1 c.n1 (dirOf l).2.2.1 else c.n1) ≤ 2147483648
    split
    · exact least_rng h.2 hn
    · exact h.2
theorem CR.fold : ∀ (m : List (List UInt8)) {c : Own.Ctl}, CR c → CR (m.foldl actL c)
  | [], c, h => h
  | x :: m, c, h => CR.fold m (h.act x)
theorem ctl_rng (v : List ByteArray) : CR (ctlOf v) := CR.fold (splits v) (c := Own.Ctl.zero) ⟨⟨by decide, by decide⟩, ⟨by decide, by decide⟩⟩
theorem one_ok {l : List S35} (h : LinesOk l) (nm : ByteArray) (hn : 1 ≤ nm.size ∧ nm.size ≤ 100) (got : Int) : ∃ t b, Ev (fun k => age_one.f k l nm got) (t, b) ∧ 0 ≤ t ∧ t ≤ 2147483648 := by
  obtain ⟨yr, hy⟩ := yr_ex got
  obtain ⟨h1, h2⟩ := h.all nm hn.1
  have ha := All_ok (l := l) (by have := h.len; omega) h.okL (n := nm) (by omega)
  unfold age_one.f
  generalize allOf l nm = v at h1 h2 ha
  by_cases c : (v.length : Int) = 1
  · obtain ⟨s, rfl⟩ : ∃ s, v = [s] := List.length_eq_one_iff.1 (by omega)
    have hs := h2 s (by simp)
    refine ⟨cl (parseP (B s) yr).1, _, Ev.bind ha (Ev.pos c (Ev.pos (by simp) (Ev.bind (DParse_ok s (by omega) hy) (Ev.bnd (Clip_cl _) (Ev.now _))))), (cl_rng _).1, (cl_rng _).2⟩
  · exact ⟨0, false, Ev.bind ha (Ev.neg c (Ev.now _)), by decide, by decide⟩
theorem Date_ok {l : List S35} (h : LinesOk l) (got : Int) : ∃ d, Ev (fun k => age_Date.f k l got) d ∧ 0 ≤ d ∧ d ≤ 2147483648 := by
  obtain ⟨t, b, e, t0, t1⟩ := one_ok h (⟨#[68, 97, 116, 101]⟩ : ByteArray) (by decide) got
  unfold age_Date.f
  cases b
  · exact ⟨cl got, Ev.bind e (Ev.neg (by simp) (Ev.bnd (Clip_cl got) (Ev.now _))), (cl_rng _).1, (cl_rng _).2⟩
  · exact ⟨t, Ev.bind e (Ev.pos rfl (Ev.now _)), t0, t1⟩
theorem told_loop (v : List ByteArray) (hv : v.length ≤ 400) (hb : ∀ s ∈ v, s.size ≤ 1100000) : ∀ (r : List ByteArray) (i : Nat) (n : Int), v.drop i = r → 0 ≤ n → n ≤ 2147483648 → ∃ m, Ev (fun k => age_told.l0 k n v (v.length : Int) (i : Int)) m ∧ 0 ≤ m ∧ m ≤ 2147483648
  | [], i, n, h, h0, h1 => by
    have := drop_nil h
    exact ⟨n, Ev.step (fun _ => age_told.l0.eq_2 ..) (Ev.neg (by omega) (Ev.now _)), h0, h1⟩
  | s :: r, i, n, h, h0, h1 => by
    obtain ⟨a1, a2, a3⟩ := drop_cons h
    have hs := hb s (List.mem_of_getElem? a2)
    have hq := secs_rng (B s)
    have mxr : ∀ x : Int, 0 ≤ x → x ≤ 2147483648 → 0 ≤ mx n x ∧ mx n x ≤ 2147483648 := by intro x _ _; unfold mx; split <;> omega
    by_cases c : (secsOf (B s)).2 = true
    · obtain ⟨m, hm, m0, m1⟩ := told_loop v hv hb r (i + 1) (mx n (secsOf (B s)).1) a3 (mxr _ hq.1 hq.2).1 (mxr _ hq.1 hq.2).2
      refine ⟨m, Ev.step (fun _ => age_told.l0.eq_2 ..) (Ev.pos (by omega) (Ev.pos (by omega) (Ev.pos (by omega) ?_))), m0, m1⟩
      rw [rdOf_of a2, wrap_id (by omega) (by omega), cast_succ]
      exact Ev.bind (Sec_ok s (by omega)) (Ev.pos c hm)
    · obtain ⟨m, hm, m0, m1⟩ := told_loop v hv hb r (i + 1) (mx n 2147483648) a3 (mxr _ (by omega) (by omega)).1 (mxr _ (by omega) (by omega)).2
      refine ⟨m, Ev.step (fun _ => age_told.l0.eq_2 ..) (Ev.pos (by omega) (Ev.pos (by omega) (Ev.pos (by omega) ?_))), m0, m1⟩
      rw [rdOf_of a2, wrap_id (by omega) (by omega), cast_succ]
      exact Ev.bind (Sec_ok s (by omega)) (Ev.neg c hm)
theorem told_ok {l : List S35} (h : LinesOk l) : ∃ m, Ev (fun k => age_told.f k l) m ∧ 0 ≤ m ∧ m ≤ 2147483648 := by
  obtain ⟨h1, h2⟩ := h.all (⟨#[65, 103, 101]⟩ : ByteArray) (by decide)
  obtain ⟨m, hm, m0, m1⟩ := told_loop _ h1 h2 _ 0 0 rfl (by omega) (by omega)
  exact ⟨m, Ev.bind (All_ok (by have := h.len; omega) h.okL (by decide)) hm, m0, m1⟩
/-- How old: by the date, by what is told. -/
def ageI (d m asked got now : Int) : Int := adS (mx (suS got d) (adS m (suS got asked))) (suS now got)
theorem Age_ok {l : List S35} {d m got : Int} (hd : Ev (fun k => age_Date.f k l got) d) (hm : Ev (fun k => age_told.f k l) m) (asked now : Int) : Ev (fun k => age_Age.f k l asked got now) (ageI d m asked got now) := by
  unfold age_Age.f
  exact Ev.bind hd (Ev.bnd (Sub_cl _ _) (Ev.bind hm (Ev.bnd (Sub_cl _ _) (Ev.bnd (Add_cl _ _) (Ev.bnd (Sub_cl _ _) (Ev.bnd (Add_cl _ _) (Ev.now _)))))))
theorem control_ok {l : List S35} (h : LinesOk l) : Ev (fun k => age_control.f k l) (storedOf l).tup := by
  obtain ⟨h1, h2⟩ := h.all ccName (by show 1 ≤ 13; omega)
  have hR : Ev (fun k => age_control.R k l) (storedOf l) := by
    unfold age_control.R
    exact Ev.bind (All_cc h) (ccR_ok _ h1 h2)
  exact Ev.bind hR (Ev.now _)
theorem Usual_ok (n : Int) : ∃ b, age_Usual.f n = some b := by
  unfold age_Usual.f
  (repeat' split) <;> exact ⟨_, rfl⟩
theorem su_rng (a b : Int) : 0 ≤ suS a b ∧ suS a b ≤ 2147483648 := cl_rng _
theorem Life_ok (sh : Bool) (st : Int) {l : List S35} (h : LinesOk l) (got : Int) : ∃ n, Ev (fun k => age_Life.f k sh st l got) n ∧ 0 ≤ n ∧ n ≤ 2147483648 := by
  obtain ⟨d, hd, d0, d1⟩ := Date_ok h got
  obtain ⟨r0, r1⟩ := ctl_rng (allOf l ccName)
  obtain ⟨t, b, e, t0, t1⟩ := one_ok h (⟨#[69, 120, 112, 105, 114, 101, 115]⟩ : ByteArray) (by decide) got
  obtain ⟨t', b', e', t0', t1'⟩ := one_ok h (⟨#[76, 97, 115, 116, 45, 77, 111, 100, 105, 102, 105, 101, 100]⟩ : ByteArray) (by decide) got
  obtain ⟨u, hu⟩ := Usual_ok st
  have hall := All_ok (l := l) (by have := h.len; omega) h.okL (n := (⟨#[69, 120, 112, 105, 114, 101, 115]⟩ : ByteArray)) (by decide)
  have j : ∀ b0 : Bool, ∃ n, Ev (fun k => age_Life.j0 k st l got d b0 (storedOf l).b0 (storedOf l).b1 (storedOf l).b2 (storedOf l).b3 (storedOf l).b4 (storedOf l).b5 (storedOf l).b6 (storedOf l).b7 (storedOf l).b8 (storedOf l).b9 (storedOf l).b10 (storedOf l).h0 (storedOf l).n0 (storedOf l).h1 (storedOf l).n1 (storedOf l).h2 (storedOf l).n2 (storedOf l).h3 (storedOf l).n3 (storedOf l).h4 (storedOf l).n4) n ∧ 0 ≤ n ∧ n ≤ 2147483648 := by
    intro b0
    cases b0
    · by_cases c : (storedOf l).h0 = true
      · exact ⟨_, Ev.step (fun _ => age_Life.j0.eq_2 ..) (Ev.neg (by simp) (Ev.pos c (Ev.now _))), r0.1, r0.2⟩
      · by_cases c2 : ((allOf l (⟨#[69, 120, 112, 105, 114, 101, 115]⟩ : ByteArray)).length : Int) > 0
        · cases b
          · exact ⟨0, Ev.step (fun _ => age_Life.j0.eq_2 ..) (Ev.neg (by simp) (Ev.neg c (Ev.bind hall (Ev.pos c2 (Ev.bind e (Ev.neg (by simp) (Ev.now _))))))), by decide, by decide⟩
          · exact ⟨suS t d, Ev.step (fun _ => age_Life.j0.eq_2 ..) (Ev.neg (by simp) (Ev.neg c (Ev.bind hall (Ev.pos c2 (Ev.bind e (Ev.pos rfl (Ev.bnd (Sub_cl _ _) (Ev.now _)))))))), (su_rng _ _).1, (su_rng _ _).2⟩
        · cases b'
          · exact ⟨0, Ev.step (fun _ => age_Life.j0.eq_2 ..) (Ev.neg (by simp) (Ev.neg c (Ev.bind hall (Ev.neg c2 (Ev.bind e' (Ev.neg (by simp) (Ev.now _))))))), by decide, by decide⟩
          · cases u
            · exact ⟨0, Ev.step (fun _ => age_Life.j0.eq_2 ..) (Ev.neg (by simp) (Ev.neg c (Ev.bind hall (Ev.neg c2 (Ev.bind e' (Ev.pos rfl (Ev.bnd hu (Ev.neg (by simp) (Ev.now _))))))))), by decide, by decide⟩
            · have q := su_rng d t'
              have w : wrap64 (Int.tdiv (suS d t') 10) = suS d t' / 10 := by rw [Int.tdiv_eq_ediv_of_nonneg q.1, wrap_id (by omega) (by omega)]
              refine ⟨mn (suS d t' / 10) 604800, Ev.step (fun _ => age_Life.j0.eq_2 ..) (Ev.neg (by simp) (Ev.neg c (Ev.bind hall (Ev.neg c2 (Ev.bind e' (Ev.pos rfl (Ev.bnd hu (Ev.pos rfl (Ev.bnd (Sub_cl _ _) (Ev.tell (by rw [w]))))))))))), ?_, ?_⟩ <;> (unfold mn; split <;> omega)
    · exact ⟨_, Ev.step (fun _ => age_Life.j0.eq_2 ..) (Ev.pos rfl (Ev.now _)), r1.1, r1.2⟩
  unfold age_Life.f
  cases sh
  · obtain ⟨n, hn, n0, n1⟩ := j false
    exact ⟨n, Ev.bind (control_ok h) (Ev.bind hd (Ev.neg (by simp) hn)), n0, n1⟩
  · obtain ⟨n, hn, n0, n1⟩ := j (storedOf l).h1
    exact ⟨n, Ev.bind (control_ok h) (Ev.bind hd (Ev.pos rfl hn)), n0, n1⟩
theorem first19_ok : Ev (fun k => sprlaw19_first.f k) true := Ev.of (fun k => sprlaw19_first.mono k) (k := 40) (by kernel_rfl)
theorem rf_comma : ∀ (l cur m : List UInt8), (34 : UInt8) ∉ l → rf cur false (l ++ 44 :: m) = rf cur false l ++ pieces m
  | [], cur, m, h => by
    rw [List.nil_append, rf_plain _ _ _ _ (by simp), if_neg (by decide), if_pos ⟨rfl, rfl⟩]
    rw [show rf cur false [] = one cur by unfold rf; rfl]
    rfl
  | c :: t, cur, m, h => by
    have hc : c ≠ 34 := fun e => h (by rw [e]; exact List.mem_cons_self)
    have ht : (34 : UInt8) ∉ t := fun e => h (List.mem_cons_of_mem _ e)
    rw [List.cons_append, rf_plain _ _ _ _ (by simp), rf_plain _ _ c t (by simp), if_neg hc, if_neg hc]
    by_cases h44 : c = 44
    · rw [if_pos ⟨h44, rfl⟩, if_pos ⟨h44, rfl⟩, rf_comma t [] m ht, List.append_assoc]
    · rw [if_neg (fun q => h44 q.1), if_neg (fun q => h44 q.1), rf_comma t _ m ht]
theorem pieces_comma (l m : List UInt8) (h : (34 : UInt8) ∉ l) : pieces (l ++ 44 :: m) = pieces l ++ pieces m := rf_comma l [] m h
theorem one_blank (l : List UInt8) : one (32 :: l) = one l := by
  have : tr (32 :: l) = tr l := by rw [tr_eq, tr_eq, List.dropWhile_cons_of_pos (by decide)]
  unfold one; rw [this]
theorem pieces_blank (l : List UInt8) : pieces (32 :: l) = pieces l := by
  unfold pieces
  rw [rf_plain _ _ _ _ (by simp), if_neg (by decide), if_neg (by decide), rf_pc l _ false, rf_pc l [] false]
  rw [show ([] : List UInt8) ++ [32] ++ l.take (pc false l) = 32 :: l.take (pc false l) from rfl, one_blank]
  rfl
theorem rf_whole : ∀ (l cur : List UInt8), (34 : UInt8) ∉ l → (44 : UInt8) ∉ l → rf cur false l = one (cur ++ l)
  | [], cur, _, _ => by rw [List.append_nil]; unfold rf; rfl
  | c :: t, cur, h, h' => by
    have hc : c ≠ 34 := fun e => h (by rw [e]; exact List.mem_cons_self)
    have hc' : c ≠ 44 := fun e => h' (by rw [e]; exact List.mem_cons_self)
    rw [rf_plain _ _ _ _ (by simp), if_neg hc, if_neg (fun q => hc' q.1), rf_whole t _ (fun e => h (List.mem_cons_of_mem _ e)) (fun e => h' (List.mem_cons_of_mem _ e)), List.append_assoc]
    rfl
theorem dropWhile_none (p : UInt8 → Bool) : ∀ l : List UInt8, (∀ c ∈ l, p c = false) → l.dropWhile p = l
  | [], _ => rfl
  | c :: t, h => List.dropWhile_cons_of_neg (by rw [h c List.mem_cons_self]; simp)
theorem tr_none (l : List UInt8) (h : ∀ c ∈ l, blank c = false) : tr l = l := by
  rw [tr_eq, dropWhile_none _ _ h]
  unfold rdw
  rw [dropWhile_none _ _ (fun c hc => h c (List.mem_reverse.1 hc)), List.reverse_reverse]
theorem pieces_whole (l : List UInt8) (h0 : l ≠ []) (h : ∀ c ∈ l, c ≠ 34 ∧ c ≠ 44 ∧ blank c = false) : pieces l = [l] := by
  unfold pieces
  rw [rf_whole l [] (fun e => (h _ e).1 rfl) (fun e => (h _ e).2.1 rfl), List.nil_append]
  unfold one
  rw [tr_none l (fun c hc => (h c hc).2.2), if_neg h0]
def decL (n : Nat) : List UInt8 := if h : n < 10 then [UInt8.ofNat (48 + n)] else decL (n / 10) ++ [UInt8.ofNat (48 + n % 10)]
termination_by n
decreasing_by omega
theorem decL_small {n : Nat} (h : n < 10) : decL n = [UInt8.ofNat (48 + n)] := by unfold decL; rw [dif_pos h]
theorem decL_big {n : Nat} (h : ¬ n < 10) : decL n = decL (n / 10) ++ [UInt8.ofNat (48 + n % 10)] := by rw [decL, dif_neg h]
theorem decL_len : ∀ (b n : Nat), n < 10 ^ (b + 1) → (decL n).length ≤ b + 1
  | 0, n, h => by rw [decL_small (by simpa using h)]; simp
  | b + 1, n, h => by
    by_cases h10 : n < 10
    · rw [decL_small h10]; simp
    · rw [decL_big h10, List.length_append, List.length_singleton]
      have := decL_len b (n / 10) (by rw [Nat.pow_succ] at h; omega)
      omega
theorem decL_digits : ∀ (b n : Nat), n < b → ∀ c ∈ decL n, 48 ≤ c.toNat ∧ c.toNat ≤ 57
  | 0, n, h => by omega
  | b + 1, n, h => by
    intro c hc
    by_cases h10 : n < 10
    · rw [decL_small h10] at hc
      rw [List.mem_singleton.1 hc, UInt8.toNat_ofNat_of_lt' (by show 48 + n < 256; omega)]; omega
    · rw [decL_big h10] at hc
      rcases List.mem_append.1 hc with m | m
      · exact decL_digits b (n / 10) (by omega) c m
      · rw [List.mem_singleton.1 m, UInt8.toNat_ofNat_of_lt' (by show 48 + n % 10 < 256; omega)]; omega
theorem decL_ne (n : Nat) : decL n ≠ [] := by
  by_cases h10 : n < 10
  · rw [decL_small h10]; simp
  · rw [decL_big h10]; simp
theorem num_one {x : Int} {n : Nat} (h : x = (n : Int)) (hn : n < 256) : strOfNums [(wrap64 x) % 256] = mk [UInt8.ofNat n] := by
  have : (wrap64 x) % 256 = (n : Int) := by rw [wrap_id (by omega) (by omega)]; omega
  rw [this]; rfl
theorem secVal_snoc : ∀ (l : List UInt8) (c : UInt8) (m : Int), secVal (l ++ [c]) m = (secVal l m).bind fun v => if 48 ≤ c.toNat ∧ c.toNat ≤ 57 then some (mn (v * 10 + ((c.toNat : Int) - 48)) 2147483648) else none
  | [], c, m => by
    show secVal [c] m = _
    unfold secVal
    split
    · rfl
    · rfl
  | d :: t, c, m => by
    rw [List.cons_append]
    unfold secVal
    split
    · exact secVal_snoc t c _
    · rfl
theorem secVal_dec : ∀ (b n : Nat), n < b → secVal (decL n) 0 = some (mn (n : Int) 2147483648)
  | 0, n, h => by omega
  | b + 1, n, h => by
    by_cases h10 : n < 10
    · have e : (UInt8.ofNat (48 + n)).toNat = 48 + n := UInt8.toNat_ofNat_of_lt' (by show 48 + n < 256; omega)
      rw [decL_small h10]
      unfold secVal
      rw [if_pos (by omega), e]
      unfold secVal
      congr 2
      omega
    · have e : (UInt8.ofNat (48 + n % 10)).toNat = 48 + n % 10 := UInt8.toNat_ofNat_of_lt' (by show 48 + n % 10 < 256; omega)
      rw [decL_big h10, secVal_snoc, secVal_dec b (n / 10) (by omega), Option.bind_some, if_pos (by omega), e]
      congr 1
      unfold mn
      split <;> split <;> split <;> omega
theorem secs_dec (n : Nat) (hn : n ≤ 2147483648) : secsOf (decL n) = ((n : Int), true) := by
  have hl := decL_len 18 n (by omega)
  unfold secsOf
  rw [if_neg, secVal_dec (n + 1) n (by omega)]
  · show (mn (n : Int) 2147483648, true) = _
    rw [show mn (n : Int) 2147483648 = n by unfold mn; split <;> omega]
  · rintro (h | h)
    · exact decL_ne n h
    · omega
theorem digit_plain {c : UInt8} (h : 48 ≤ c.toNat ∧ c.toNat ≤ 57) : c ≠ 34 ∧ c ≠ 44 ∧ blank c = false := by
  refine ⟨fun e => ?_, fun e => ?_, ?_⟩
  · subst e; revert h; decide
  · subst e; revert h; decide
  · cases hb : blank c with
    | false => rfl
    | true =>
      have : c = 32 ∨ c = 9 := by simpa [blank] using hb
      rcases this with rfl | rfl <;> revert h <;> decide
theorem dec_plain (n : Nat) : ∀ c ∈ decL n, c ≠ 34 ∧ c ≠ 44 ∧ blank c = false := fun c hc => digit_plain (decL_digits (n + 1) n (by omega) c hc)
theorem unq_dec (n : Nat) : unq (decL n) = decL n := by
  unfold unq
  rw [if_neg]
  rintro ⟨_, h, _⟩
  exact (dec_plain n 34 (List.mem_of_getElem? h)).1 rfl
def maxAge : List UInt8 := [109, 97, 120, 45, 97, 103, 101, 61]
def sMax : List UInt8 := [115, 45, 109, 97, 120, 97, 103, 101, 61]
theorem cut_max (l : List UInt8) : cutL (maxAge ++ l) = ([109, 97, 120, 45, 97, 103, 101], l, true) := by
  simp [maxAge, cutL]
theorem cut_smax (l : List UInt8) : cutL (sMax ++ l) = ([115, 45, 109, 97, 120, 97, 103, 101], l, true) := by
  simp [sMax, cutL]
theorem dir_dec (nm : List UInt8) (n i : Nat) (hn : n ≤ 2147483648) (l : List UInt8) (hc : cutL l = (nm, decL n, true)) (hk : Own.kindOf (Own.low (mk nm)) = i) (ht : tr nm = nm) : dirOf l = (i, true, (n : Int), true) := by
  unfold dirOf
  rw [hc]
  show (Own.kindOf (Own.low (mk (tr nm))), true, (secsOf (unq (tr (decL n)))).1, (secsOf (unq (tr (decL n)))).2) = _
  rw [ht, tr_none (decL n) (fun c hc => (dec_plain n c hc).2.2), unq_dec, secs_dec n hn, hk]
theorem ctl_two (a b : Nat) (ha : a ≤ 2147483648) (hb : b ≤ 2147483648) (s : ByteArray) (hs : B s = maxAge ++ decL a ++ 44 :: 32 :: (sMax ++ decL b)) : (ctlOf [s]).h0 = true ∧ (ctlOf [s]).n0 = (a : Int) ∧ (ctlOf [s]).h1 = true ∧ (ctlOf [s]).n1 = (b : Int) := by
  have p1 : ∀ c ∈ maxAge ++ decL a, c ≠ 34 ∧ c ≠ 44 ∧ blank c = false := by
    intro c hc
    rcases List.mem_append.1 hc with m | m
    · exact (show ∀ c ∈ maxAge, c ≠ 34 ∧ c ≠ 44 ∧ blank c = false by decide) c m
    · exact dec_plain a c m
  have p2 : ∀ c ∈ sMax ++ decL b, c ≠ 34 ∧ c ≠ 44 ∧ blank c = false := by
    intro c hc
    rcases List.mem_append.1 hc with m | m
    · exact (show ∀ c ∈ sMax, c ≠ 34 ∧ c ≠ 44 ∧ blank c = false by decide) c m
    · exact dec_plain b c m
  have hw : splits [s] = [maxAge ++ decL a, sMax ++ decL b] := by
    have : splits [s] = pieces (B s) := by simp [splits]
    rw [this, hs, pieces_comma _ _ (fun h => (p1 34 h).1 rfl), pieces_blank, pieces_whole _ (by simp [maxAge]) p1, pieces_whole _ (by simp [sMax]) p2]
    rfl
  have d1 : dirOf (maxAge ++ decL a) = (10, true, (a : Int), true) := dir_dec _ a 10 ha _ (cut_max _) (by decide +kernel) (tr_none _ (by decide))
  have d2 : dirOf (sMax ++ decL b) = (11, true, (b : Int), true) := dir_dec _ b 11 hb _ (cut_smax _) (by decide +kernel) (tr_none _ (by decide))
  unfold ctlOf
  rw [hw]
  simp only [List.foldl_cons, List.foldl_nil]
  unfold actL
  rw [d1, d2]
  refine ⟨?_, ?_, ?_, ?_⟩ <;> simp [actD, Own.Ctl.act, Own.Ctl.fin, Own.Ctl.zero, Own.leastOf]
def nAge : ByteArray := ⟨#[65, 103, 101]⟩
def nDate : ByteArray := ⟨#[68, 97, 116, 101]⟩
def nExp : ByteArray := ⟨#[69, 120, 112, 105, 114, 101, 115]⟩
def nLast : ByteArray := ⟨#[76, 97, 115, 116, 45, 77, 111, 100, 105, 102, 105, 101, 100]⟩
theorem one_none {l : List S35} (h : LinesOk l) {nm : ByteArray} (hn : nm.size ≤ 100) (e : allOf l nm = []) (got : Int) : Ev (fun k => age_one.f k l nm got) (0, false) := by
  have ha := All_ok (l := l) (by have := h.len; omega) h.okL (n := nm) (by omega)
  rw [e] at ha
  unfold age_one.f
  exact Ev.bind ha (Ev.neg (by simp) (Ev.now _))
theorem Date_none {l : List S35} (h : LinesOk l) (e : allOf l nDate = []) (got : Int) : Ev (fun k => age_Date.f k l got) (cl got) := by
  unfold age_Date.f
  exact Ev.bind (one_none h (nm := nDate) (by decide) e got) (Ev.neg (by simp) (Ev.bnd (Clip_cl got) (Ev.now _)))
theorem told_none {l : List S35} (h : LinesOk l) (e : allOf l nAge = []) : Ev (fun k => age_told.f k l) 0 := by
  have ha := All_ok (l := l) (by have := h.len; omega) h.okL (n := nAge) (by decide)
  rw [e] at ha
  unfold age_told.f
  exact Ev.bind ha (Ev.step (fun _ => age_told.l0.eq_2 ..) (Ev.neg (by simp) (Ev.now _)))
theorem told_one {l : List S35} (h : LinesOk l) {n : Nat} (hn : n ≤ 2147483648) (e : allOf l nAge = [mk (decL n)]) : Ev (fun k => age_told.f k l) (n : Int) := by
  have ha := All_ok (l := l) (by have := h.len; omega) h.okL (n := nAge) (by decide)
  rw [e] at ha
  have hz : (mk (decL n)).size ≤ 1000 := by rw [size_B, B_mk]; have := decL_len 18 n (by omega); omega
  have hs := Sec_ok (mk (decL n)) (by omega)
  rw [B_mk, secs_dec n hn] at hs
  unfold age_told.f
  refine Ev.bind ha (Ev.step (fun _ => age_told.l0.eq_2 ..) (Ev.pos (by simp) (Ev.pos (by simp) (Ev.pos (by simp) ?_))))
  refine Ev.bind hs (Ev.pos rfl (Ev.step (fun _ => age_told.l0.eq_2 ..) (Ev.neg (by simp [wrap64]) (Ev.tell ?_))))
  show mx 0 (n : Int) = (n : Int)
  unfold mx; split <;> omega
theorem su_same (g : Int) : suS g g = 0 := by unfold suS; rw [Int.sub_self]; rfl
theorem su_add {g o : Int} (hg : 0 ≤ g) (ho : 0 ≤ o) (h : g + o ≤ 2147483648) : suS (g + o) g = o := by
  unfold suS
  rw [cl_id (n := g + o) (by omega) (by omega), cl_id hg (by omega), cl_id (n := g + o - g) (by omega) (by omega)]
  omega
theorem Life_max {l : List S35} (h : LinesOk l) (st : Int) {got d n : Int} (hd : Ev (fun k => age_Date.f k l got) d) (h0 : (storedOf l).h0 = true) (n0 : (storedOf l).n0 = n) : Ev (fun k => age_Life.f k false st l got) n := by
  unfold age_Life.f
  subst n0
  exact Ev.bind (control_ok h) (Ev.bind hd (Ev.neg (by simp) (Ev.step (fun _ => age_Life.j0.eq_2 ..) (Ev.neg (by simp) (Ev.pos h0 (Ev.now _))))))
theorem Life_shared {l : List S35} (h : LinesOk l) (st : Int) {got d n : Int} (hd : Ev (fun k => age_Date.f k l got) d) (h1 : (storedOf l).h1 = true) (n1 : (storedOf l).n1 = n) : Ev (fun k => age_Life.f k true st l got) n := by
  unfold age_Life.f
  subst n1
  exact Ev.bind (control_ok h) (Ev.bind hd (Ev.pos rfl (Ev.step (fun _ => age_Life.j0.eq_2 ..) (Ev.pos h1 (Ev.now _)))))
theorem Life_none {l : List S35} (h : LinesOk l) (st : Int) {got d : Int} (hd : Ev (fun k => age_Date.f k l got) d) (h0 : (storedOf l).h0 = false) (e : allOf l nExp = []) (e' : allOf l nLast = []) : Ev (fun k => age_Life.f k false st l got) 0 := by
  have ha := All_ok (l := l) (by have := h.len; omega) h.okL (n := nExp) (by decide)
  rw [e] at ha
  unfold age_Life.f
  exact Ev.bind (control_ok h) (Ev.bind hd (Ev.neg (by simp) (Ev.step (fun _ => age_Life.j0.eq_2 ..) (Ev.neg (by simp) (Ev.neg (by show ¬ (storedOf l).h0 = true; rw [h0]; simp) (Ev.bind ha (Ev.neg (by simp) (Ev.bind (one_none h (nm := nLast) (by decide) e' got) (Ev.neg (by simp) (Ev.now _))))))))))
theorem Explicit_max {l : List S35} (h : LinesOk l) (h0 : (storedOf l).h0 = true) : Ev (fun k => age_Explicit.f k false l) true := by
  unfold age_Explicit.f
  exact Ev.bind (control_ok h) (Ev.neg (by simp) (Ev.pos h0 (Ev.now _)))
/-- A number's last two digits. -/
def dg2 (n : Nat) : List UInt8 := [UInt8.ofNat (48 + n / 10 % 10), UInt8.ofNat (48 + n % 10)]
def dg4 (n : Nat) : List UInt8 := dg2 (n / 100) ++ dg2 n
theorem dg2_len (n : Nat) : (dg2 n).length = 2 := rfl
theorem dg4_len (n : Nat) : (dg4 n).length = 4 := rfl
theorem dig_val (n : Nat) : ((UInt8.ofNat (48 + n % 10)).toNat : Int) = 48 + ((n % 10 : Nat) : Int) := by
  rw [UInt8.toNat_ofNat']
  omega
theorem numV_dig (n : Nat) (t : List UInt8) (x : Int) : numV (UInt8.ofNat (48 + n % 10) :: t) x = numV t (x * 10 + ((n % 10 : Nat) : Int)) := by
  have := dig_val n
  rw [numV, this, if_neg (by omega), if_neg (by omega)]
  congr 1
  omega
theorem num_dg2 (n : Nat) (h : n < 100) : num (dg2 n) 2 = n := by
  unfold num
  rw [if_pos (show (dg2 n).length = 2 from rfl)]
  unfold dg2
  rw [numV_dig, numV_dig, numV]
  omega
theorem num_dg4 (n : Nat) (h : n < 10000) : num (dg4 n) 4 = n := by
  unfold num
  rw [if_pos (show (dg4 n).length = 4 from rfl)]
  show numV [UInt8.ofNat (48 + n / 100 / 10 % 10), UInt8.ofNat (48 + n / 100 % 10), UInt8.ofNat (48 + n / 10 % 10), UInt8.ofNat (48 + n % 10)] 0 = n
  rw [numV_dig, numV_dig, numV_dig, numV_dig, numV]
  omega
theorem dig_ne (n : Nat) (d : UInt8) (hd : d.toNat < 48 ∨ 57 < d.toNat) : UInt8.ofNat (48 + n % 10) ≠ d := fun e => by
  have := dig_val n
  rw [e] at this
  omega
/-- A time, as Print writes it. -/
def txtOf (w : List UInt8) (dd : Nat) (m : List UInt8) (y h mi s : Nat) : List UInt8 := (w ++ [44]) ++ 32 :: (dg2 dd ++ 32 :: (m ++ 32 :: (dg4 y ++ 32 :: ((dg2 h ++ 58 :: (dg2 mi ++ 58 :: dg2 s)) ++ 32 :: gmt))))
def wkd (n : Int) : List UInt8 := dayR.getD (n % 7).toNat []
def mth (p : Nat) : List UInt8 := monL.getD p []
theorem wkd_in (n : Int) : wkd n ∈ dayL := by
  have : ∀ i, i < 7 → dayR.getD i [] ∈ dayL := by decide
  exact this _ (by omega)
theorem wkd_len (n : Int) : (wkd n).length = 3 := (dayL_facts _ (wkd_in n)).1
theorem mth_mon : ∀ p : Nat, p ≤ 11 → mon (mth p) = p := by
  intro p h
  have : ∀ i, i < 12 → mon (mth i) = i := by decide
  exact this p (by omega)
theorem mth_len (p : Nat) (h : p ≤ 11) : (mth p).length = 3 := (monL_facts _ ((mon_facts _).1.1 (by rw [mth_mon p h]; omega))).1
/-- The parts of a second. -/
structure PT (t : Int) (y p dd : Nat) : Prop where
  hi : inR t = true
  y0 : 1601 ≤ y
  y1 : y ≤ 9999
  p1 : p ≤ 11
  d0 : 1 ≤ dd
  d1 : (dd : Int) ≤ lenM y ((p : Int) + 1)
  eq : t / 86400 = firstY y + sumM y p + dd - 1
theorem PT_ex {t : Int} (h : inR t = true) : ∃ y p dd : Nat, PT t y p dd ∧ firstY y ≤ t / 86400 ∧ t / 86400 < firstY ((y : Int) + 1) := by
  obtain ⟨y, a, b, c, d⟩ := year_of h
  obtain ⟨Y, rfl⟩ : ∃ Y : Nat, y = Y := ⟨y.toNat, by omega⟩
  have e := sumM_year Y
  have mex : ∀ m : Nat, t / 86400 - firstY Y < sumM Y m → ∃ p, p < m ∧ sumM Y p ≤ t / 86400 - firstY Y ∧ t / 86400 - firstY Y < sumM Y (p + 1) := by
    intro m
    induction m with
    | zero => intro h; simp [sumM] at h; omega
    | succ m ih =>
      intro h
      by_cases c : t / 86400 - firstY Y < sumM Y m
      · obtain ⟨p, a, b⟩ := ih c
        exact ⟨p, by omega, b⟩
      · exact ⟨m, by omega, by omega, h⟩
  obtain ⟨p, p1, p2, p3⟩ := mex 12 (by omega)
  have e3 : sumM Y (p + 1) = sumM Y p + lenM Y ((p : Int) + 1) := by simp only [sumM]
  refine ⟨Y, p, (t / 86400 - firstY Y - sumM Y p + 1).toNat, ⟨h, by omega, by omega, by omega, by omega, by omega, by omega⟩, c, d⟩
theorem PT.year {t : Int} {y p dd : Nat} (h : PT t y p dd) : firstY y ≤ t / 86400 ∧ t / 86400 < firstY ((y : Int) + 1) := by
  have e3 : sumM y (p + 1) = sumM y p + lenM y ((p : Int) + 1) := by simp only [sumM]
  have r := sumM_range y p
  have hle : ∀ i : Nat, sumM y (p + 1) ≤ sumM y (p + 1 + i) := by
    intro i
    induction i with
    | zero => exact Int.le_refl _
    | succ i ih =>
      have e : sumM y (p + 1 + (i + 1)) = sumM y (p + 1 + i) + lenM y (((p + 1 + i : Nat) : Int) + 1) := by rw [← Nat.add_assoc]; simp only [sumM]
      have := lenM_range y (((p + 1 + i : Nat) : Int) + 1)
      omega
  have q := hle (11 - p)
  rw [show p + 1 + (11 - p) = 12 by have := h.p1; omega] at q
  have s := sumM_year y
  have := h.eq
  have := h.d0
  have := h.d1
  omega
def txt (t : Int) (y p dd : Nat) : List UInt8 := txtOf (wkd (t / 86400)) dd (mth p) y ((t % 86400).toNat / 3600) ((t % 86400).toNat / 60 % 60) ((t % 86400).toNat % 60)
/-- The second of its own parts. -/
theorem PT.make {t : Int} {y p dd : Nat} (h : PT t y p dd) : makeOf y ((p : Int) + 1) dd ((t % 86400).toNat / 3600 : Nat) ((t % 86400).toNat / 60 % 60 : Nat) ((t % 86400).toNat % 60 : Nat) = (t, true) := by
  obtain ⟨hi, y0, y1, p1, d0, d1, eq⟩ := h
  unfold makeOf
  rw [if_neg (by unfold badM; omega), show (((p : Int) + 1) - 1).toNat = p by omega]
  have hm : mn ((((t % 86400).toNat % 60 : Nat) : Int)) 59 = (((t % 86400).toNat % 60 : Nat) : Int) := by unfold mn; split <;> omega
  rw [hm]
  congr 1
  omega
theorem num_dg2' (n : Nat) : num (dg2 n) 2 = ((n % 100 : Nat) : Int) := by
  unfold num
  rw [if_pos (show (dg2 n).length = 2 from rfl)]
  unfold dg2
  rw [numV_dig, numV_dig, numV]
  omega
def clkT (t : Int) : List UInt8 := dg2 ((t % 86400).toNat / 3600) ++ 58 :: (dg2 ((t % 86400).toNat / 60 % 60) ++ 58 :: dg2 ((t % 86400).toNat % 60))
theorem clkT_len (t : Int) : (clkT t).length = 8 := rfl
theorem clkT_ok (t : Int) : clkR (clkT t) = ((((t % 86400).toNat / 3600 : Nat) : Int), (((t % 86400).toNat / 60 % 60 : Nat) : Int), (((t % 86400).toNat % 60 : Nat) : Int), true) := by
  unfold clkT
  rw [clkR_of rfl rfl rfl, num_dg2 _ (by omega), num_dg2 _ (by omega), num_dg2 _ (by omega), decide_eq_true ⟨by omega, by omega, by omega⟩]
theorem made_txt {t : Int} {y p dd : Nat} (h : PT t y p dd) : madeOf y p dd (clkR (clkT t)) = (t, 0) := by
  rw [clkT_ok]
  unfold madeOf
  rw [if_pos (show okM _ _ _ _ from ⟨rfl, by omega, by omega, by omega⟩), h.make]
  rfl
theorem dd_lt {t : Int} {y p dd : Nat} (h : PT t y p dd) : dd < 32 := by
  have := h.d1
  have := lenM_range y ((p : Int) + 1)
  omega
theorem parse_txt {t : Int} {y p dd : Nat} (h : PT t y p dd) (yr : Int) : parseP (txt t y p dd) yr = (t, 0) := by
  have z := imf_at (n := wkd (t / 86400)) (d := dg2 dd) (m := mth p) (y := dg4 y) (t := clkT t) (wkd_len _) rfl (mth_len p h.p1) rfl rfl (wkd_in _)
  have dl := dd_lt h
  have e : txt t y p dd = ((wkd (t / 86400) ++ [44]) ++ 32 :: (dg2 dd ++ 32 :: (mth p ++ 32 :: (dg4 y ++ 32 :: (clkT t ++ 32 :: gmt))))) := rfl
  rw [parse_eq]
  unfold parseR
  rw [e, if_pos z.1, z.2, num_dg4 y (by have := h.y1; omega), mth_mon p h.p1, num_dg2 dd (by omega)]
  exact made_txt h
theorem txt_len {t : Int} {y p dd : Nat} (h : PT t y p dd) : (txt t y p dd).length = 29 := by
  have hw := wkd_len (t / 86400)
  have hm := mth_len p h.p1
  unfold txt txtOf gmt dg4
  simp [hw, hm, dg2_len]
theorem parse_more {t : Int} {y p dd : Nat} (h : PT t y p dd) (yr : Int) : parseP (txt t y p dd ++ [32]) yr = (0, 4) := by
  have hl : (txt t y p dd ++ [32]).length = 30 := by rw [List.length_append, txt_len h]; rfl
  have hw := dayL_facts _ (wkd_in (t / 86400))
  have e : ∃ r, txt t y p dd ++ [32] = wkd (t / 86400) ++ 44 :: r := by
    unfold txt txtOf
    exact ⟨_, by rw [List.append_assoc, List.append_assoc]; rfl⟩
  obtain ⟨r, e⟩ := e
  rw [parse_eq]
  unfold parseR
  rw [if_neg (fun q : imfG _ => by have := q.1; omega), if_neg (fun q : ascG _ => by have := q.1; omega), if_neg (fun q : obsG _ => ?_)]
  obtain ⟨-, q, -⟩ := q
  rw [e, com_of _ r hw.2.2, take_app] at q
  have := (longL_facts _ q).1
  omega
theorem rd_at {M : List ByteArray} {L : List (List UInt8)} (e : M.map B = L) (i : Nat) (h : i < L.length) : rdOf ByteArray.empty M (i : Int) = mk (L.getD i []) ∧ (i : Int) < (M.length : Int) := by
  have hl : M.length = L.length := by rw [← e, List.length_map]
  refine ⟨?_, by omega⟩
  apply B_inj
  unfold rdOf
  rw [Int.toNat_natCast, B_mk, ← e, List.getD_eq_getElem?_getD, List.getD_eq_getElem?_getD, List.getElem?_map, List.getElem?_eq_getElem (show i < M.length by omega)]
  rfl
theorem z1 : (⟨#[44, 32]⟩ : ByteArray).size = 2 := rfl
theorem z2 : (⟨#[32]⟩ : ByteArray).size = 1 := rfl
theorem z3 : (⟨#[58]⟩ : ByteArray).size = 1 := rfl
theorem z4 : (⟨#[32, 71, 77, 84]⟩ : ByteArray).size = 4 := rfl
theorem dec1 (n : Nat) (h : n < 10) : Lib.decDigits n = [UInt8.ofNat (48 + n % 10)] := by
  rw [Lib.decDigits, dif_pos h, Nat.mod_eq_of_lt h]
theorem decN (n : Nat) (h : ¬ n < 10) : Lib.decDigits n = Lib.decDigits (n / 10) ++ [UInt8.ofNat (48 + n % 10)] := by
  rw [Lib.decDigits, dif_neg h]
theorem Itoa_ok (n : Nat) (h : n ≤ 9223372036854775807) : strconv_Itoa.f (n : Int) = some (mk (Lib.decDigits n)) := by
  unfold strconv_Itoa.f Lib.itoa
  rw [if_pos (by omega), if_neg (by omega), Int.toNat_natCast]
  rfl
theorem digits_l0 (l : List UInt8) (w : Nat) (hw : w ≤ 100) : ∀ j, l.length + j = w → Ev (fun k => date_digits.l0 k (w : Int) (mk l)) (mk (List.replicate j 48 ++ l))
  | 0, h => Ev.step (fun _ => date_digits.l0.eq_2 ..) (Ev.neg (by rw [mk_size]; omega) (Ev.now _))
  | j + 1, h => by
    refine Ev.step (fun _ => date_digits.l0.eq_2 ..) (Ev.pos (by rw [mk_size]; omega) (Ev.pos (by rw [mk_size]; omega) ?_))
    have e : (⟨#[48]⟩ : ByteArray) ++ mk l = mk (48 :: l) := by apply B_inj; rw [B_append]; rfl
    rw [e]
    have r := digits_l0 (48 :: l) w hw j (by simp; omega)
    have e2 : List.replicate j (48 : UInt8) ++ 48 :: l = List.replicate (j + 1) 48 ++ l := by rw [List.replicate_succ', List.append_assoc]; rfl
    rw [e2] at r
    exact r
theorem digits2_ok (n : Nat) (h : n < 100) : Ev (fun k => date_digits.f k (n : Int) 2) (mk (dg2 n)) := by
  unfold date_digits.f
  refine Ev.bnd (Itoa_ok n (by omega)) ?_
  by_cases c : n < 10
  · rw [dec1 n c]
    have r := digits_l0 [UInt8.ofNat (48 + n % 10)] 2 (by omega) 1 rfl
    have e : List.replicate 1 (48 : UInt8) ++ [UInt8.ofNat (48 + n % 10)] = dg2 n := by
      unfold dg2
      rw [show n / 10 = 0 by omega]; rfl
    rw [e] at r
    exact r
  · rw [decN n c, dec1 (n / 10) (by omega)]
    exact digits_l0 (dg2 n) 2 (by omega) 0 rfl
theorem digits4_ok (n : Nat) (h0 : 1000 ≤ n) (h : n < 10000) : Ev (fun k => date_digits.f k (n : Int) 4) (mk (dg4 n)) := by
  unfold date_digits.f
  refine Ev.bnd (Itoa_ok n (by omega)) ?_
  rw [decN n (by omega), decN (n / 10) (by omega), decN (n / 10 / 10) (by omega), dec1 (n / 10 / 10 / 10) (by omega)]
  have e : [UInt8.ofNat (48 + n / 10 / 10 / 10 % 10)] ++ [UInt8.ofNat (48 + n / 10 / 10 % 10)] ++ [UInt8.ofNat (48 + n / 10 % 10)] ++ [UInt8.ofNat (48 + n % 10)] = dg4 n := by
    unfold dg4 dg2
    rw [show n / 10 / 10 = n / 100 by omega]
    rfl
  rw [e]
  exact digits_l0 (dg4 n) 4 (by omega) 0 rfl
theorem down7_ok {t : Int} (h0 : -9000000000000000000 ≤ t) (h1 : t ≤ 9000000000000000000) : date_down.f t 7 = some (t / 7, t % 7) := by
  have d : (Int.tmod t 7 < 0 → Int.tdiv t 7 - 1 = t / 7 ∧ Int.tmod t 7 + 7 = t % 7) ∧ (¬ Int.tmod t 7 < 0 → Int.tdiv t 7 = t / 7 ∧ Int.tmod t 7 = t % 7) := by
    by_cases h : 0 ≤ t
    · rw [tmod_pos h, tdiv_pos h]
      exact ⟨fun c => by omega, fun c => ⟨rfl, rfl⟩⟩
    · obtain ⟨m, rfl⟩ : ∃ m, t = -m := ⟨-t, by omega⟩
      rw [Int.neg_tmod, Int.neg_tdiv, tmod_pos (by omega), tdiv_pos (by omega)]
      exact ⟨fun c => by omega, fun c => by omega⟩
  unfold date_down.f
  rw [if_neg (by omega)]
  by_cases c : Int.tmod t 7 < 0
  · obtain ⟨a, b⟩ := d.1 c
    rw [if_pos c, wrap_id (x := Int.tdiv t 7) (by omega) (by omega), wrap_id (by omega) (by omega), wrap_id (by omega) (by omega), a, b]
  · obtain ⟨a, b⟩ := d.2 c
    rw [if_neg c, wrap_id (x := Int.tdiv t 7) (by omega) (by omega), a, b]
theorem wkd_sun (n : Int) : wkd n = dayL.getD ((n + 4) % 7).toNat [] := by
  have h : ∀ i : Nat, i < 7 → dayR.getD i [] = dayL.getD ((i + 4) % 7) [] := by decide
  have := h (n % 7).toNat (by omega)
  unfold wkd
  rw [this]
  congr 1
  omega
theorem Print_fin (n y s : Int) (Y p dd S : Nat) (hY : y = Y) (y0 : 1601 ≤ Y) (y1 : Y ≤ 9999) (hp : p ≤ 11) (d0 : 1 ≤ dd) (d1 : (dd : Int) ≤ lenM y ((p : Int) + 1)) (hn : -1000000 ≤ n ∧ n ≤ 10000000) (hS : s = S) (s1 : S < 86400) :
    Ev (fun k => date_Print.l0 k n s y ((dd : Int) - 1) ((p : Int) + 1)) (mk (txtOf (wkd n) dd (mth p) Y (S / 3600) (S / 60 % 60) (S % 60)), 0) := by
  have ll := lenM_range y ((p : Int) + 1)
  have hw : (wkd n).length = 3 := wkd_len n
  have hm : (mth p).length = 3 := mth_len p hp
  obtain ⟨D, hD⟩ : ∃ D, date_days.f = some D := ⟨_, rfl⟩
  have eD : D.map B = longL := by rw [← Option.some.inj hD]; rfl
  obtain ⟨M, hM⟩ : ∃ M, date_months.f = some M := ⟨_, rfl⟩
  have eM : M.map B = monL := by rw [← Option.some.inj hM]; rfl
  obtain ⟨rM, lM⟩ := rd_at eM p (show p < 12 by omega)
  obtain ⟨i, hi⟩ : ∃ i : Nat, (n + 4) % 7 = i := ⟨((n + 4) % 7).toNat, by omega⟩
  obtain ⟨rD, lD⟩ := rd_at eD i (show i < 7 by omega)
  have xD : (rdOf ByteArray.empty D (i : Int)).extract 0 3 = mk (wkd n) := by
    apply B_inj
    rw [rD, B_to, B_mk, B_mk, wkd_sun, hi, Int.toNat_natCast]
    exact (show ∀ j, j < 7 → (longL.getD j []).take 3 = dayL.getD j [] by decide) i (by omega)
  have lD3 : 3 ≤ ((rdOf ByteArray.empty D (i : Int)).size : Int) := by
    rw [rD, mk_size]
    have := (show ∀ j, j < 7 → 3 ≤ (longL.getD j []).length by decide) i (by omega)
    omega
  refine Ev.step (fun _ => date_Print.l0.eq_2 ..) (Ev.bind (length_ok (by omega)) (Ev.neg (by omega) ?_))
  rw [wrap_id (x := n + 4) (by omega) (by omega)]
  refine Ev.bnd (down7_ok (by omega) (by omega)) (Ev.bnd hD ?_)
  simp only [hi]
  rw [xD]
  refine Ev.pos (by omega) (Ev.pos lD (Ev.pos (by decide) (Ev.pos lD3 (Ev.pos (by simp only [ByteArray.size_append, mk_size, hw, hm, dg2_len, dg4_len, z1, z2, z3, z4]; omega) ?_))))
  rw [wrap_id (x := (dd : Int) - 1 + 1) (by omega) (by omega), show (dd : Int) - 1 + 1 = dd by omega]
  refine Ev.bind (digits2_ok dd (by omega)) (Ev.pos (by simp only [ByteArray.size_append, mk_size, hw, hm, dg2_len, dg4_len, z1, z2, z3, z4]; omega) (Ev.pos (by simp only [ByteArray.size_append, mk_size, hw, hm, dg2_len, dg4_len, z1, z2, z3, z4]; omega) (Ev.bnd hM ?_)))
  rw [wrap_id (x := (p : Int) + 1 - 1) (by omega) (by omega), show (p : Int) + 1 - 1 = p by omega, rM]
  rw [show monL.getD p [] = mth p from rfl]
  refine Ev.pos (by omega) (Ev.pos lM (Ev.pos (by simp only [ByteArray.size_append, mk_size, hw, hm, dg2_len, dg4_len, z1, z2, z3, z4]; omega) (Ev.pos (by simp only [ByteArray.size_append, mk_size, hw, hm, dg2_len, dg4_len, z1, z2, z3, z4]; omega) ?_)))
  rw [hY, hS, tdiv_pos (by omega), tdiv_pos (by omega), wrap_id (x := (S : Int) / 3600) (by omega) (by omega), wrap_id (x := (S : Int) / 60) (by omega) (by omega), tmod_pos (by omega), tmod_pos (by omega)]
  rw [show (S : Int) / 3600 = ((S / 3600 : Nat) : Int) by omega, show (S : Int) / 60 % 60 = ((S / 60 % 60 : Nat) : Int) by omega, show (S : Int) % 60 = ((S % 60 : Nat) : Int) by omega]
  refine Ev.bind (digits4_ok Y (by omega) (by omega)) (Ev.pos (by simp only [ByteArray.size_append, mk_size, hw, hm, dg2_len, dg4_len, z1, z2, z3, z4]; omega) (Ev.pos (by simp only [ByteArray.size_append, mk_size, hw, hm, dg2_len, dg4_len, z1, z2, z3, z4]; omega) ?_))
  refine Ev.bind (digits2_ok (S / 3600) (by omega)) (Ev.pos (by simp only [ByteArray.size_append, mk_size, hw, hm, dg2_len, dg4_len, z1, z2, z3, z4]; omega) (Ev.pos (by simp only [ByteArray.size_append, mk_size, hw, hm, dg2_len, dg4_len, z1, z2, z3, z4]; omega) ?_))
  refine Ev.bind (digits2_ok (S / 60 % 60) (by omega)) (Ev.pos (by simp only [ByteArray.size_append, mk_size, hw, hm, dg2_len, dg4_len, z1, z2, z3, z4]; omega) (Ev.pos (by simp only [ByteArray.size_append, mk_size, hw, hm, dg2_len, dg4_len, z1, z2, z3, z4]; omega) ?_))
  refine Ev.bind (digits2_ok (S % 60) (by omega)) (Ev.pos (by simp only [ByteArray.size_append, mk_size, hw, hm, dg2_len, dg4_len, z1, z2, z3, z4]; omega) (Ev.pos (by simp only [ByteArray.size_append, mk_size, hw, hm, dg2_len, dg4_len, z1, z2, z3, z4]; omega) (Ev.tell ?_)))
  congr 1
  apply B_inj
  simp only [B_append, B_mk]
  unfold txtOf gmt
  simp only [List.append_assoc, List.cons_append, List.nil_append]
  rfl
theorem Print_loop (n y s : Int) (Y p dd S : Nat) (hY : y = Y) (y0 : 1601 ≤ Y) (y1 : Y ≤ 9999) (hp : p ≤ 11) (d0 : 1 ≤ dd) (d1 : (dd : Int) ≤ lenM y ((p : Int) + 1)) (hn : -1000000 ≤ n ∧ n ≤ 10000000) (hS : s = S) (s1 : S < 86400) : ∀ (j q : Nat), q + j = p →
    Ev (fun k => date_Print.l0 k n s y (sumM y p - sumM y q + dd - 1) ((q : Int) + 1)) (mk (txtOf (wkd n) dd (mth p) Y (S / 3600) (S / 60 % 60) (S % 60)), 0)
  | 0, q, he => by
    obtain rfl : q = p := by omega
    rw [show sumM y q - sumM y q + dd - 1 = (dd : Int) - 1 by omega]
    exact Print_fin n y s Y q dd S hY y0 y1 hp d0 d1 hn hS s1
  | j + 1, q, he => by
    have ll := lenM_range y ((p : Int) + 1)
    have l := lenM_range y ((q : Int) + 1)
    have r := sumM_range y p
    have r2 := sumM_range y q
    have e3 : sumM y (q + 1) = sumM y q + lenM y ((q : Int) + 1) := by simp only [sumM]
    have hle : ∀ i : Nat, sumM y (q + 1) ≤ sumM y (q + 1 + i) := by
      intro i
      induction i with
      | zero => exact Int.le_refl _
      | succ i ih =>
        have e : sumM y (q + 1 + (i + 1)) = sumM y (q + 1 + i) + lenM y (((q + 1 + i : Nat) : Int) + 1) := by rw [← Nat.add_assoc]; simp only [sumM]
        have := lenM_range y (((q + 1 + i : Nat) : Int) + 1)
        omega
    have h2 := hle j
    rw [show q + 1 + j = p by omega] at h2
    refine Ev.step (fun _ => date_Print.l0.eq_2 ..) (Ev.bind (length_ok (by omega)) (Ev.pos (by omega) ?_))
    rw [wrap_id (x := sumM y p - sumM y q + dd - 1 - _) (by omega) (by omega), wrap_id (x := (q : Int) + 1 + 1) (by omega) (by omega)]
    have z := Print_loop n y s Y p dd S hY y0 y1 hp d0 d1 hn hS s1 j (q + 1) (by omega)
    rw [e3, show sumM y p - (sumM y q + lenM y ((q : Int) + 1)) + dd - 1 = sumM y p - sumM y q + dd - 1 - lenM y ((q : Int) + 1) by omega, show ((q + 1 : Nat) : Int) + 1 = (q : Int) + 1 + 1 by omega] at z
    exact z
theorem Print_ok {t : Int} {y p dd : Nat} (h : PT t y p dd) : Ev (fun k => date_Print.f k t) (mk (txt t y p dd), 0) := by
  obtain ⟨c, d⟩ := h.year
  have hi := h.hi
  have f := firstY_range (y := y) (by have := h.y0; omega) (by have := h.y1; omega)
  unfold date_Print.f
  refine Ev.bnd (within_ok t) ?_
  rw [hi]
  unfold inR at hi
  simp only [Bool.and_eq_true, decide_eq_true_eq] at hi
  refine Ev.pos rfl (Ev.bnd (down_ok (by omega) (by omega)) (Ev.bind (yearOf_ok (by have := h.y0; omega) (by have := h.y1; omega) c d) ?_))
  have z := Print_loop (t / 86400) y (t % 86400) y p dd (t % 86400).toNat rfl h.y0 h.y1 h.p1 h.d0 h.d1 ⟨by omega, by omega⟩ (by omega) (by omega) p 0 (by omega)
  have e : sumM y p - sumM y 0 + dd - 1 = t / 86400 - firstY y := by
    have := h.eq
    simp only [sumM]
    omega
  rw [e] at z
  exact z
theorem Print_no {t : Int} (h : inR t = false) : Ev (fun k => date_Print.f k t) (mk [], 1) := by
  unfold date_Print.f
  refine Ev.bnd (within_ok t) ?_
  rw [h]
  exact Ev.neg (by simp) (Ev.now _)
theorem one_of {l : List S35} (h : LinesOk l) {nm : ByteArray} (hn : nm.size ≤ 100) {s : ByteArray} (hs : s.size ≤ 1000000) (e : allOf l nm = [s]) {got yr : Int} (hy : YR got yr) : Ev (fun k => age_one.f k l nm got) (cl (parseP (B s) yr).1, (parseP (B s) yr).2 == 0) := by
  have ha := All_ok (l := l) (by have := h.len; omega) h.okL (n := nm) (by omega)
  rw [e] at ha
  unfold age_one.f
  exact Ev.bind ha (Ev.pos (by simp) (Ev.pos (by simp) (Ev.bind (DParse_ok s (by omega) hy) (Ev.bnd (Clip_cl _) (Ev.now _)))))
theorem one_date {l : List S35} (h : LinesOk l) {nm : ByteArray} (hn : nm.size ≤ 100) {t : Int} {y p dd : Nat} (ht : PT t y p dd) (t0 : 0 ≤ t) (t1 : t ≤ 2147483648) (e : allOf l nm = [mk (txt t y p dd)]) (got : Int) : Ev (fun k => age_one.f k l nm got) (t, true) := by
  obtain ⟨yr, hy⟩ := yr_ex got
  have hl := txt_len ht
  have q := one_of h hn (s := mk (txt t y p dd)) (by rw [mk_size, hl]; omega) e hy
  rw [B_mk, parse_txt ht] at q
  show Ev _ (t, ((0 : Int) == 0))
  rw [← cl_id t0 t1]
  exact q
theorem one_bad {l : List S35} (h : LinesOk l) {nm : ByteArray} (hn : nm.size ≤ 100) {s : ByteArray} (hs : s.size ≤ 1000000) (e : allOf l nm = [s]) (hb : ∀ yr, parseP (B s) yr = (0, 4)) (got : Int) : Ev (fun k => age_one.f k l nm got) (0, false) := by
  obtain ⟨yr, hy⟩ := yr_ex got
  have q := one_of h hn hs e hy
  rw [hb] at q
  exact q
theorem bad_x (yr : Int) : parseP [120] yr = (0, 4) := by
  rw [parse_eq]; unfold parseR; rw [if_neg (by decide), if_neg (by decide), if_neg (by decide)]
theorem bad_0 (yr : Int) : parseP [48] yr = (0, 4) := by
  rw [parse_eq]; unfold parseR; rw [if_neg (by decide), if_neg (by decide), if_neg (by decide)]
theorem Date_of {l : List S35} {t got : Int} (h : Ev (fun k => age_one.f k l nDate got) (t, true)) : Ev (fun k => age_Date.f k l got) t := by
  unfold age_Date.f
  exact Ev.bind h (Ev.pos rfl (Ev.now _))
theorem Date_no {l : List S35} {t got : Int} (h : Ev (fun k => age_one.f k l nDate got) (t, false)) : Ev (fun k => age_Date.f k l got) (cl got) := by
  unfold age_Date.f
  exact Ev.bind h (Ev.neg (by simp) (Ev.bnd (Clip_cl got) (Ev.now _)))
theorem one_two {l : List S35} (h : LinesOk l) {nm a b : ByteArray} (hn : nm.size ≤ 100) (e : allOf l nm = [a, b]) (got : Int) : Ev (fun k => age_one.f k l nm got) (0, false) := by
  have ha := All_ok (l := l) (by have := h.len; omega) h.okL (n := nm) (by omega)
  rw [e] at ha
  unfold age_one.f
  exact Ev.bind ha (Ev.neg (by simp) (Ev.now _))
theorem inR_of {t : Int} (h0 : 0 ≤ t) (h1 : t ≤ 2147483648) : inR t = true := by
  unfold inR
  rw [decide_eq_true (by omega), decide_eq_true (by omega)]; rfl
/-- Short lines are lines of which the laws speak. -/
theorem short_lines {l : List S35} (h0 : l.length ≤ 400) (h : ∀ x ∈ l, x.f0.size ≤ 1000 ∧ x.f1.size ≤ 1000) : LinesOk l :=
  ⟨h0, fun x hx => by have := h x hx; exact ⟨by omega, by omega⟩, fun x hx _ => by have := h x hx; omega⟩
theorem Life_ends {l : List S35} (h : LinesOk l) (sh : Bool) (st : Int) {got d t : Int} {b : Bool} {v : ByteArray} (hc : allOf l ccName = []) (hd : Ev (fun k => age_Date.f k l got) d) (e : allOf l nExp = [v]) (ht : Ev (fun k => age_one.f k l nExp got) (t, b)) : Ev (fun k => age_Life.f k sh st l got) (if b = true then suS t d else 0) := by
  have ha := All_ok (l := l) (by have := h.len; omega) h.okL (n := nExp) (by decide)
  rw [e] at ha
  have hs : storedOf l = ctlOf [] := by unfold storedOf; rw [hc]
  have h0 : (storedOf l).h0 = false := by rw [hs]; rfl
  have h1 : (storedOf l).h1 = false := by rw [hs]; rfl
  have j : ∀ b0 : Bool, b0 = false → Ev (fun k => age_Life.j0 k st l got d b0 (storedOf l).b0 (storedOf l).b1 (storedOf l).b2 (storedOf l).b3 (storedOf l).b4 (storedOf l).b5 (storedOf l).b6 (storedOf l).b7 (storedOf l).b8 (storedOf l).b9 (storedOf l).b10 (storedOf l).h0 (storedOf l).n0 (storedOf l).h1 (storedOf l).n1 (storedOf l).h2 (storedOf l).n2 (storedOf l).h3 (storedOf l).n3 (storedOf l).h4 (storedOf l).n4) (if b = true then suS t d else 0) := by
    rintro b0 rfl
    refine Ev.step (fun _ => age_Life.j0.eq_2 ..) (Ev.neg (by simp) (Ev.neg (by rw [h0]; simp) (Ev.bind ha (Ev.pos (by simp) (Ev.bind ht ?_)))))
    cases b
    · exact Ev.neg (by simp) (Ev.now _)
    · exact Ev.pos rfl (Ev.bnd (Sub_cl _ _) (Ev.now _))
  unfold age_Life.f
  cases sh
  · exact Ev.bind (control_ok h) (Ev.bind hd (Ev.neg (by simp) (j false rfl)))
  · exact Ev.bind (control_ok h) (Ev.bind hd (Ev.pos rfl (j _ h1)))
theorem Explicit_ends {l : List S35} (h : LinesOk l) {v : ByteArray} (hc : allOf l ccName = []) (e : allOf l nExp = [v]) : Ev (fun k => age_Explicit.f k false l) true := by
  have ha := All_ok (l := l) (by have := h.len; omega) h.okL (n := nExp) (by decide)
  rw [e] at ha
  have h0 : (storedOf l).h0 = false := by unfold storedOf; rw [hc]; rfl
  unfold age_Explicit.f
  exact Ev.bind (control_ok h) (Ev.neg (by simp) (Ev.neg (by show ¬ (storedOf l).h0 = true; rw [h0]; simp) (Ev.bind ha (Ev.now _))))
theorem ctl_zero : (ctlOf [(⟨#[109, 97, 120, 45, 97, 103, 101, 61, 48]⟩ : ByteArray)]).h0 = true ∧ (ctlOf [(⟨#[109, 97, 120, 45, 97, 103, 101, 61, 48]⟩ : ByteArray)]).n0 = 0 := by
  have p1 : ∀ c ∈ maxAge ++ decL 0, c ≠ 34 ∧ c ≠ 44 ∧ blank c = false := by
    intro c hc
    rcases List.mem_append.1 hc with m | m
    · exact (show ∀ c ∈ maxAge, c ≠ 34 ∧ c ≠ 44 ∧ blank c = false by decide) c m
    · exact dec_plain 0 c m
  have hB : B (⟨#[109, 97, 120, 45, 97, 103, 101, 61, 48]⟩ : ByteArray) = maxAge ++ decL 0 := by rw [decL_small (by omega)]; rfl
  have hw : splits [(⟨#[109, 97, 120, 45, 97, 103, 101, 61, 48]⟩ : ByteArray)] = [maxAge ++ decL 0] := by
    have : splits [(⟨#[109, 97, 120, 45, 97, 103, 101, 61, 48]⟩ : ByteArray)] = pieces (B (⟨#[109, 97, 120, 45, 97, 103, 101, 61, 48]⟩ : ByteArray)) := by simp [splits]
    rw [this, hB, pieces_whole _ (by simp [maxAge]) p1]
  have d1 : dirOf (maxAge ++ decL 0) = (10, true, ((0 : Nat) : Int), true) := dir_dec _ 0 10 (by omega) _ (cut_max _) (by decide +kernel) (tr_none _ (by decide))
  unfold ctlOf
  rw [hw]
  simp only [List.foldl_cons, List.foldl_nil]
  unfold actL
  rw [d1]
  refine ⟨?_, ?_⟩ <;> simp [actD, Own.Ctl.act, Own.Ctl.fin, Own.Ctl.zero, Own.leastOf]
theorem Life_last {l : List S35} (h : LinesOk l) (st : Int) {got d t : Int} {u : Bool} (hc : allOf l ccName = []) (hd : Ev (fun k => age_Date.f k l got) d) (e : allOf l nExp = []) (ht : Ev (fun k => age_one.f k l nLast got) (t, true)) (hu : age_Usual.f st = some u) : Ev (fun k => age_Life.f k false st l got) (if u = true then mn (suS d t / 10) 604800 else 0) := by
  have ha := All_ok (l := l) (by have := h.len; omega) h.okL (n := nExp) (by decide)
  rw [e] at ha
  have h0 : (storedOf l).h0 = false := by unfold storedOf; rw [hc]; rfl
  unfold age_Life.f
  refine Ev.bind (control_ok h) (Ev.bind hd (Ev.neg (by simp) (Ev.step (fun _ => age_Life.j0.eq_2 ..) (Ev.neg (by simp) (Ev.neg (by show ¬ (storedOf l).h0 = true; rw [h0]; simp) (Ev.bind ha (Ev.neg (by simp) (Ev.bind ht (Ev.pos rfl (Ev.bnd hu ?_))))))))))
  cases u
  · exact Ev.neg (by simp) (Ev.now _)
  · have q := su_rng d t
    have w : wrap64 (Int.tdiv (suS d t) 10) = suS d t / 10 := by rw [Int.tdiv_eq_ediv_of_nonneg q.1, wrap_id (by omega) (by omega)]
    refine Ev.pos rfl (Ev.bnd (Sub_cl _ _) (Ev.tell ?_))
    show mn (wrap64 (Int.tdiv (suS d t) 10)) 604800 = _
    rw [w]; rfl
theorem Explicit_no {l : List S35} (h : LinesOk l) (hc : allOf l ccName = []) (e : allOf l nExp = []) : Ev (fun k => age_Explicit.f k true l) false := by
  have ha := All_ok (l := l) (by have := h.len; omega) h.okL (n := nExp) (by decide)
  rw [e] at ha
  have h0 : (storedOf l).h0 = false := by unfold storedOf; rw [hc]; rfl
  have h1 : (storedOf l).h1 = false := by unfold storedOf; rw [hc]; rfl
  unfold age_Explicit.f
  exact Ev.bind (control_ok h) (Ev.pos rfl (Ev.neg (by show ¬ (storedOf l).h1 = true; rw [h1]; simp) (Ev.neg (by show ¬ (storedOf l).h0 = true; rw [h0]; simp) (Ev.bind ha (Ev.now _)))))
theorem AgeHeuristic (at_ ago st : Int) (w0 : (Lit.int .i64 at_).wf = true) (w1 : (Lit.int .i64 ago).wf = true) (w2 : (Lit.int .i64 st).wf = true) : ∃ k, sprlaw19_AgeHeuristic.f k at_ ago st = some true := by
  apply Ev.rounds
  have low : ∀ b : Bool, b = true → Ev (fun k => sprlaw19_AgeHeuristic.j0 k at_ ago st b) true := fun b hb =>
    Ev.step (fun _ => sprlaw19_AgeHeuristic.j0.eq_2 ..) (Ev.pos hb (Ev.bind first19_ok (Ev.now _)))
  unfold sprlaw19_AgeHeuristic.f
  refine Ev.bind first19_ok (Ev.pos rfl (Ev.ite (fun _ => low _ rfl) (fun c1 => Ev.ite (fun _ => low _ rfl) (fun c2 => Ev.ite (fun _ => low _ rfl) (fun c3 => ?_)))))
  by_cases c4 : ago > at_
  · exact low _ (decide_eq_true c4)
  have hw : wrap64 (at_ - ago) = at_ - ago := wrap_id (by omega) (by omega)
  obtain ⟨y, p, dd, hs, -⟩ := PT_ex (inR_of (t := at_) (by omega) (by omega))
  obtain ⟨y', p', dd', ht, -⟩ := PT_ex (inR_of (t := at_ - ago) (by omega) (by omega))
  obtain ⟨u, hu⟩ := Usual_ok st
  refine Ev.step (fun _ => sprlaw19_AgeHeuristic.j0.eq_2 ..) (Ev.neg (by simp [c4]) ?_)
  rw [hw]
  refine Ev.bind (Print_ok hs) (Ev.bind (Print_ok ht) (Ev.pos rfl ?_))
  have ls : (mk (txt at_ y p dd)).size = 29 := by rw [mk_size, txt_len hs]
  have lt : (mk (txt (at_ - ago) y' p' dd')).size = 29 := by rw [mk_size, txt_len ht]
  have hL : LinesOk [(⟨nDate, mk (txt at_ y p dd)⟩ : S35), ⟨nLast, mk (txt (at_ - ago) y' p' dd')⟩] := short_lines (by simp) (fun x hx => by
    simp only [List.mem_cons, List.not_mem_nil, or_false] at hx
    rcases hx with rfl | rfl
    · exact ⟨by show 4 ≤ _; omega, by show (mk _).size ≤ _; omega⟩
    · exact ⟨by show 13 ≤ _; omega, by show (mk _).size ≤ _; omega⟩)
  have hM : LinesOk ([] ++ [(⟨nDate, mk (txt at_ y p dd)⟩ : S35), ⟨nLast, mk (txt (at_ - ago) y' p' dd')⟩] ++ [⟨ccName, (⟨#[109, 97, 120, 45, 97, 103, 101, 61, 48]⟩ : ByteArray)⟩]) := short_lines (by simp) (fun x hx => by
    simp only [List.nil_append, List.cons_append, List.mem_cons, List.not_mem_nil, or_false] at hx
    rcases hx with rfl | rfl | rfl
    · exact ⟨by show 4 ≤ _; omega, by show (mk _).size ≤ _; omega⟩
    · exact ⟨by show 13 ≤ _; omega, by show (mk _).size ≤ _; omega⟩
    · exact ⟨by show 13 ≤ _; omega, by show 9 ≤ _; omega⟩)
  have two : ∀ (v v' nm : ByteArray), allOf [(⟨nDate, v⟩ : S35), ⟨nLast, v'⟩] nm = (if Own.same nDate nm = true then [v] else []) ++ (if Own.same nLast nm = true then [v'] else []) := fun v v' nm => by
    unfold allOf; cases h : Own.same nDate nm <;> cases h' : Own.same nLast nm <;> simp [h, h']
  have three : ∀ (v v' v'' nm : ByteArray), allOf ([] ++ [(⟨nDate, v⟩ : S35), ⟨nLast, v'⟩] ++ [⟨ccName, v''⟩]) nm = (if Own.same nDate nm = true then [v] else []) ++ (if Own.same nLast nm = true then [v'] else []) ++ (if Own.same ccName nm = true then [v''] else []) := fun v v' v'' nm => by
    unfold allOf; cases h : Own.same nDate nm <;> cases h' : Own.same nLast nm <;> cases h'' : Own.same ccName nm <;> simp [h, h', h'']
  have s1 : Own.same nDate nDate = true := by decide +kernel
  have s2 : Own.same nLast nDate = false := by decide +kernel
  have s3 : Own.same ccName nDate = false := by decide +kernel
  have s4 : Own.same nDate nLast = false := by decide +kernel
  have s5 : Own.same nLast nLast = true := by decide +kernel
  have s6 : Own.same nDate ccName = false := by decide +kernel
  have s7 : Own.same nLast ccName = false := by decide +kernel
  have s8 : Own.same ccName ccName = true := by decide +kernel
  have s9 : Own.same nDate nExp = false := by decide +kernel
  have s10 : Own.same nLast nExp = false := by decide +kernel
  have D1 := Date_of (one_date hL (nm := nDate) (by decide) hs (by omega) (by omega) (by rw [two, s1, s2]; rfl) at_)
  have D2 := Date_of (one_date hM (nm := nDate) (by decide) hs (by omega) (by omega) (by rw [three, s1, s2, s3]; rfl) at_)
  have eC : allOf [(⟨nDate, mk (txt at_ y p dd)⟩ : S35), ⟨nLast, mk (txt (at_ - ago) y' p' dd')⟩] ccName = [] := by rw [two, s6, s7]; rfl
  have eX : allOf [(⟨nDate, mk (txt at_ y p dd)⟩ : S35), ⟨nLast, mk (txt (at_ - ago) y' p' dd')⟩] nExp = [] := by rw [two, s9, s10]; rfl
  have L1 := Life_last hL st eC D1 eX (one_date hL (nm := nLast) (by decide) ht (by omega) (by omega) (by rw [two, s4, s5]; rfl) at_) hu
  have eM : storedOf ([] ++ [(⟨nDate, mk (txt at_ y p dd)⟩ : S35), ⟨nLast, mk (txt (at_ - ago) y' p' dd')⟩] ++ [⟨ccName, (⟨#[109, 97, 120, 45, 97, 103, 101, 61, 48]⟩ : ByteArray)⟩]) = ctlOf [(⟨#[109, 97, 120, 45, 97, 103, 101, 61, 48]⟩ : ByteArray)] := by
    unfold storedOf; rw [three, s6, s7, s8]; rfl
  have L2 := Life_max hM st (n := 0) D2 (by rw [eM]; exact ctl_zero.1) (by rw [eM]; exact ctl_zero.2)
  have X1 := Explicit_no hL eC eX
  have hsu : suS at_ (at_ - ago) = ago := by
    unfold suS
    rw [cl_id (n := at_) (by omega) (by omega), cl_id (n := at_ - ago) (by omega) (by omega), show at_ - (at_ - ago) = ago by omega, cl_id (by omega) (by omega)]
  rw [hsu] at L1
  have j2 : ∀ w : Int, w = (if u = true then mn (ago / 10) 604800 else 0) → Ev (fun k => sprlaw19_AgeHeuristic.j2 k at_ st [(⟨nDate, mk (txt at_ y p dd)⟩ : S35), ⟨nLast, mk (txt (at_ - ago) y' p' dd')⟩] ([] ++ [(⟨nDate, mk (txt at_ y p dd)⟩ : S35), ⟨nLast, mk (txt (at_ - ago) y' p' dd')⟩] ++ [⟨ccName, (⟨#[109, 97, 120, 45, 97, 103, 101, 61, 48]⟩ : ByteArray)⟩]) w) true := fun w hw => by
    refine Ev.step (fun _ => sprlaw19_AgeHeuristic.j2.eq_2 ..) (Ev.bind first19_ok (Ev.pos rfl (Ev.bind L1 (Ev.pos hw.symm (Ev.bind L2 (Ev.pos rfl (Ev.bind X1 (Ev.now _))))))))
  refine Ev.step (fun _ => sprlaw19_AgeHeuristic.j1.eq_2 ..) (Ev.neg (by simp) (Ev.bnd rfl (Ev.bnd rfl (Ev.pos (by simp) (Ev.bnd rfl (Ev.pos (by simp) (Ev.bnd rfl (Ev.bnd hu ?_))))))))
  cases u
  · exact Ev.neg (by simp) (j2 _ rfl)
  · refine Ev.pos rfl (j2 _ ?_)
    rw [if_pos rfl, Int.tdiv_eq_ediv_of_nonneg (show 0 ≤ ago by omega), wrap_id (x := ago / 10) (by omega) (by omega)]

end Go.Proofs.YtdikhinmlpihdaaGreatDoor.Pure
