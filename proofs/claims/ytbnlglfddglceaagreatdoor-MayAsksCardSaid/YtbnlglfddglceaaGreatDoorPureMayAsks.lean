/-
The law MayAsks: any request and answer: may they be, may it be stored, and if not why: by the program and by the reference the same.
-/
import Derived.Test.YtbnlglfddglceaaGreatDoorQ16
set_option linter.unusedVariables false
set_option linter.unusedSimpArgs false
namespace Go.Proofs.YtbnlglfddglceaaGreatDoor.Pure
open Go.RowKit Go.Proofs.YtbnlglfddglceaaGreatDoor.Q Go.Proofs.YtbnlglfddglceaaGreatDoorW.PrintWords Go.Proofs.YtbnlglfddglceaaGreatDoorW.PrintLast
theorem wrap_id {x : Int} (h0 : -9223372036854775808 ≤ x) (h1 : x ≤ 9223372036854775807) : wrap64 x = x := by unfold wrap64; omega
theorem Ev.succ {α : Type} {g : Nat → Option α} {r : α} (h : Ev (fun k => g (k + 1)) r) : Ev g r := Ev.step (fun _ => rfl) h
theorem Ev.konst {α : Type} {o : Option α} {r : α} (h : o = some r) : Ev (fun _ => o) r := ⟨0, fun _ _ => h⟩
theorem Ev.at {α : Type} {g : Nat → Option α} {r : α} (K : Nat) (h : ∀ k, g (k + K) = some r) : Ev g r := ⟨K, fun n hn => by
  obtain ⟨m, rfl⟩ : ∃ m, n = m + K := ⟨n - K, by omega⟩
  exact h m⟩
theorem drop_cons {α : Type} {l : List α} {i : Nat} {c : α} {t : List α} (h : l.drop i = c :: t) : i < l.length ∧ l[i]? = some c ∧ l.drop (i + 1) = t := by
  have h1 : (l.drop i)[0]? = some c := by rw [h]; rfl
  rw [List.getElem?_drop] at h1
  simp only [Nat.add_zero] at h1
  refine ⟨(List.getElem?_eq_some_iff.1 h1).1, h1, ?_⟩
  rw [← List.drop_drop, h]; rfl
theorem drop_nil {α : Type} {l : List α} {i : Nat} (h : l.drop i = []) : l.length ≤ i := by
  simpa using h
theorem rd_of {l : List Int} {i : Nat} {c : Int} (h : l[i]? = some c) : rd l (i : Int) = c := by
  unfold rd; rw [Int.toNat_natCast, List.getD_eq_getElem?_getD, h]; rfl
theorem rdOf_of {α : Type} {d : α} {l : List α} {i : Nat} {c : α} (h : l[i]? = some c) : rdOf d l (i : Int) = c := by
  unfold rdOf; rw [Int.toNat_natCast, List.getD_eq_getElem?_getD, h]; rfl
theorem cast_succ (i : Nat) : ((i : Int) + 1) = ((i + 1 : Nat) : Int) := by omega
theorem Ev.tell {α : Type} {a r : α} (h : a = r) : Ev (fun _ => some a) r := h ▸ Ev.now a
theorem Ev.pos {α : Type} {c : Prop} [Decidable c] {A B : Nat → Option α} {r : α} (h : c) (k : Ev A r) : Ev (fun n => if c then A n else B n) r := Ev.congr (fun _ => if_pos h) k
theorem Ev.neg {α : Type} {c : Prop} [Decidable c] {A B : Nat → Option α} {r : α} (h : ¬ c) (k : Ev B r) : Ev (fun n => if c then A n else B n) r := Ev.congr (fun _ => if_neg h) k
theorem Ev.ite {α : Type} {c : Prop} [Decidable c] {A B : Nat → Option α} {r : α} (h : c → Ev A r) (k : ¬ c → Ev B r) : Ev (fun n => if c then A n else B n) r := by
  by_cases q : c
  · exact Ev.pos q (h q)
  · exact Ev.neg q (k q)
theorem Ev.bnd {α β : Type} {o : Option β} {a : β} {f : Nat → β → Option α} {r : α} (h : o = some a) (k : Ev (fun n => f n a) r) : Ev (fun n => o.bind (f n)) r := by
  subst h; exact k
/-- A text's bytes. -/
def B (s : ByteArray) : List UInt8 := s.data.toList
def mk (l : List UInt8) : ByteArray := ⟨l.toArray⟩
theorem B_mk (l : List UInt8) : B (mk l) = l := rfl
theorem mk_B (s : ByteArray) : mk (B s) = s := rfl
theorem B_inj {s t : ByteArray} (h : B s = B t) : s = t := by rw [← mk_B s, ← mk_B t, h]
theorem toList_B (s : ByteArray) : s.toList = B s := Lib.toList_data s
theorem size_B (s : ByteArray) : s.size = (B s).length := Lib.size_eq s
theorem B_extract (s : ByteArray) (a b : Nat) : B (s.extract a b) = ((B s).drop a).take (b - a) := Lib.extract_data s a b
theorem B_append (s t : ByteArray) : B (s ++ t) = B s ++ B t := by
  unfold B
  rw [ByteArray.data_append, Array.toList_append]
theorem B_to (s : ByteArray) (n : Nat) : B (s.extract 0 n) = (B s).take n := by rw [B_extract, List.drop_zero, Nat.sub_zero]
theorem B_from (s : ByteArray) (n : Nat) : B (s.extract n s.size) = (B s).drop n := by
  rw [B_extract, size_B]
  exact List.take_of_length_le (by rw [List.length_drop]; omega)
theorem bt_of {s : ByteArray} {i : Nat} {c : UInt8} (h : (B s)[i]? = some c) : bt s (i : Int) = (c.toNat : Int) := by
  unfold bt
  have hi : i < s.size := by rw [size_B]; exact (List.getElem?_eq_some_iff.1 h).1
  rw [Int.toNat_natCast, dif_pos hi]
  have : (s[i]'hi) = c := by
    have h1 : (B s)[i]? = some (s[i]'hi) := by
      unfold B
      rw [Array.getElem?_toList]
      exact Array.getElem?_eq_getElem _
    rw [h1] at h
    exact Option.some.inj h
  rw [this]
/-- The byte that a suffix begins with. -/
theorem bt_drop {s : ByteArray} {i : Nat} {c : UInt8} {t : List UInt8} (h : (B s).drop i = c :: t) : bt s (i : Int) = (c.toNat : Int) ∧ i < s.size ∧ (B s).drop (i + 1) = t := by
  obtain ⟨h1, h2, h3⟩ := drop_cons h
  exact ⟨bt_of h2, by rw [size_B]; exact h1, h3⟩
theorem end_drop {s : ByteArray} {i : Nat} (h : (B s).drop i = []) : s.size ≤ i := by rw [size_B]; exact drop_nil h
theorem u8_eq (c : UInt8) (n : Nat) (h : n < 256) : ((c.toNat : Int) = (n : Int)) ↔ c = UInt8.ofNat n := by
  constructor
  · intro e
    have e' : c.toNat = n := by omega
    rw [← e']; exact (UInt8.ofNat_toNat).symm
  · intro e
    rw [e, UInt8.toNat_ofNat']
    have : n % 2 ^ 8 = n := Nat.mod_eq_of_lt h
    omega
theorem u8_lt (c : UInt8) : (c.toNat : Int) < 256 ∧ 0 ≤ (c.toNat : Int) := by
  have := UInt8.toNat_lt c
  omega
/-! names in small letters -/
theorem lowb_low (c : UInt8) : Own.lowb (Own.lowb c) = Own.lowb c := by
  by_cases h : 65 ≤ c.toNat ∧ c.toNat ≤ 90
  · have e : Own.lowb c = c + 32 := by unfold Own.lowb; rw [if_pos h]
    have h2 : (c + 32).toNat = c.toNat + 32 := by
      rw [UInt8.toNat_add]
      show (c.toNat + 32) % 256 = _
      omega
    rw [e]
    unfold Own.lowb
    rw [if_neg (by omega)]
  · have e : Own.lowb c = c := by unfold Own.lowb; rw [if_neg h]
    rw [e, e]
theorem low_low (s : ByteArray) : Own.low (Own.low s) = Own.low s := by
  apply B_inj
  show ((s.data.toList.map Own.lowb).map Own.lowb) = s.data.toList.map Own.lowb
  rw [List.map_map]
  congr 1
  funext c
  exact lowb_low c
theorem low_size (s : ByteArray) : (Own.low s).size = s.size := by
  rw [size_B, size_B s]
  show (s.data.toList.map Own.lowb).length = _
  rw [List.length_map]; rfl
/-- The values of a name. -/
def allOf (l : List S56) (nm : ByteArray) : List ByteArray := (l.filter fun x => Own.same x.f0 nm).map (·.f1)
theorem head_is_sameM (a b : ByteArray) (ha : Own.okS a = true) (hb : Own.okS b = true) : head_is.f a b = some (Own.same a b) := by
  unfold Own.okS at ha hb
  unfold head_is.f head_Lower.f
  rw [if_pos (of_decide_eq_true ha), if_pos (of_decide_eq_true hb)]
  rfl
theorem head_All_from (l : List S56) (nm : ByteArray) (hl : l.length < 4398046511104) (hn : Own.okS nm = true) (ho : ∀ x ∈ l, Own.okS x.f0 = true) : ∀ (t : List S56) (i : Nat) (acc : List ByteArray), l.drop i = t → acc.length ≤ i →
    head_All.l0 (t.length + 1) nm acc l (l.length : Int) (i : Int) = some (acc ++ allOf t nm)
  | [], i, acc, ht, ha => by
    have h1 : l.length ≤ i := by
      rcases Nat.lt_or_ge i l.length with h | h
      · rw [List.drop_eq_getElem_cons h] at ht; cases ht
      · exact h
    unfold head_All.l0
    rw [if_neg (by omega)]
    simp [allOf]
  | x :: t, i, acc, ht, ha => by
    have hi : i < l.length := by
      rcases Nat.lt_or_ge i l.length with h | h
      · exact h
      · rw [List.drop_eq_nil_of_le h] at ht; cases ht
    rw [List.drop_eq_getElem_cons hi] at ht
    injection ht with hx ht
    have hr : rd_T56 l (i : Int) = x := by
      unfold rd_T56; rw [Int.toNat_natCast, List.getD_eq_getElem?_getD, List.getElem?_eq_getElem hi, hx]; rfl
    have hw : wrap64 ((i : Int) + 1) = ((i + 1 : Nat) : Int) := by unfold wrap64; omega
    have hm : x ∈ l := by rw [← hx]; exact List.getElem_mem hi
    have ih := fun acc ha => head_All_from l nm hl hn ho t (i + 1) acc ht ha
    show head_All.l0 (t.length + 1 + 1) nm acc l (l.length : Int) (i : Int) = _
    rw [head_All.l0, if_pos (by omega), if_pos (by omega), if_pos (by omega), hr, head_is_sameM _ _ (ho x hm) hn, hw, Option.bind_some]
    cases hs : Own.same x.f0 nm with
    | true =>
      rw [if_pos rfl, if_pos (by omega), ih _ (by rw [List.length_append, List.length_singleton]; omega)]
      simp [allOf, hs]
    | false =>
      rw [if_neg (by simp), ih _ (by omega)]
      simp [allOf, hs]
theorem head_All_is (l : List S56) (nm : ByteArray) (hl : l.length < 4398046511104) (hn : Own.okS nm = true) (ho : ∀ x ∈ l, Own.okS x.f0 = true) : head_All.f (l.length + 1) l nm = some (allOf l nm) := by
  have := head_All_from l nm hl hn ho l 0 [] rfl (Nat.le_refl 0)
  rw [List.nil_append] at this
  exact this
theorem same_iff (a b : ByteArray) : Own.same a b = true ↔ Own.low a = Own.low b := by
  unfold Own.same
  rw [toList_B, toList_B, beq_iff_eq]
  exact ⟨B_inj, fun h => by rw [h]⟩
theorem same_congr {a a' b b' : ByteArray} (h1 : Own.low a = Own.low a') (h2 : Own.low b = Own.low b') : Own.same a b = Own.same a' b' := by
  rw [Bool.eq_iff_iff, same_iff, same_iff, h1, h2]
theorem same_low (a b : ByteArray) : Own.same a (Own.low b) = Own.same a b := same_congr rfl (low_low b)
theorem same_self (a : ByteArray) : Own.same a a = true := (same_iff a a).2 rfl
theorem okS_of {s : ByteArray} (h : s.size ≤ 9223372036854775807) : Own.okS s = true := decide_eq_true h
instance : DecidableEq S56 := fun a b => decidable_of_iff (a.f0 = b.f0 ∧ a.f1 = b.f1) ⟨fun h => by cases a; cases b; cases h.1; cases h.2; rfl, fun h => by rw [h]; exact ⟨rfl, rfl⟩⟩
/-- Lines that the form lets in. -/
def okL (l : List S56) : Prop := ∀ x ∈ l, x.f0.size ≤ 9223372036854775807 ∧ x.f1.size ≤ 9223372036854775807
theorem okL.all {l : List S56} (h : okL l) : (l.all fun x => Own.okS x.f0) = true := List.all_eq_true.2 fun x hx => okS_of (h x hx).1
theorem okL.filter {l : List S56} (h : okL l) (p : S56 → Bool) : okL (l.filter p) := fun x hx => h x (List.mem_filter.1 hx).1
theorem okL.append {l m : List S56} (h : okL l) (k : okL m) : okL (l ++ m) := fun x hx => (List.mem_append.1 hx).elim (h x) (k x)
theorem allOf_append (l m : List S56) (n : ByteArray) : allOf (l ++ m) n = allOf l n ++ allOf m n := by
  unfold allOf; rw [List.filter_append, List.map_append]
theorem allOf_nil_iff (l : List S56) (n : ByteArray) : allOf l n = [] ↔ ∀ x ∈ l, Own.same x.f0 n = false := by
  unfold allOf
  rw [List.map_eq_nil_iff, List.filter_eq_nil_iff]
  exact ⟨fun h x hx => by simpa using h x hx, fun h x hx => by simpa using h x hx⟩
theorem allOf_congr (l : List S56) {a b : ByteArray} (h : Own.low a = Own.low b) : allOf l a = allOf l b := by
  unfold allOf
  congr 2
  funext x
  exact same_congr rfl h
theorem allOf_len (l : List S56) (n : ByteArray) : (allOf l n).length ≤ l.length := by
  unfold allOf; rw [List.length_map]; exact List.length_filter_le _ _
theorem All_ok {l : List S56} (hl : l.length < 4398046511104) (ho : okL l) {n : ByteArray} (hn : n.size ≤ 9223372036854775807) : Ev (fun k => head_All.f k l n) (allOf l n) :=
  Ev.of (fun k => head_All.mono _ _ k) (head_All_is l n hl (okS_of hn) (fun x hx => okS_of (ho x hx).1))
/-- Lines of which a law speaks: few, and what has a name is short. -/
structure LinesOk (l : List S56) : Prop where
  len : l.length ≤ 400
  okL : okL l
  val : ∀ x ∈ l, 1 ≤ x.f0.size → x.f1.size ≤ 1100000
theorem same_size {a b : ByteArray} (h : Own.same a b = true) : a.size = b.size := by
  have := congrArg ByteArray.size ((same_iff a b).1 h)
  rwa [low_size, low_size] at this
theorem LinesOk.all {l : List S56} (h : LinesOk l) (n : ByteArray) (hn : 1 ≤ n.size) : (allOf l n).length ≤ 400 ∧ ∀ s ∈ allOf l n, s.size ≤ 1100000 := by
  refine ⟨Nat.le_trans (allOf_len l n) h.len, fun s hs => ?_⟩
  unfold allOf at hs
  obtain ⟨x, hx, rfl⟩ := List.mem_map.1 hs
  have hx := List.mem_filter.1 hx
  exact h.val x hx.1 (by have := same_size hx.2; omega)
theorem LinesOk.of {l : List S56} (g : l.length ≤ maxLen ∧ ∀ x ∈ l, x.f0.size ≤ maxLen ∧ x.f1.size ≤ maxLen) (h : l.length ≤ 80 ∧ ∀ x ∈ l, 1 ≤ x.f0.size → x.f1.size ≤ 20000) : LinesOk l :=
  ⟨by omega, fun x hx => g.2 x hx, fun x hx h1 => by have := h.2 x hx h1; omega⟩
theorem sum_lines : ∀ (l : List S56), l.length ≤ (l.map fun y => ((y.f0.size + 1) + (y.f1.size + 1) + 1)).sum ∧ ∀ x ∈ l, x.f0.size + x.f1.size + 3 ≤ (l.map fun y => ((y.f0.size + 1) + (y.f1.size + 1) + 1)).sum
  | [] => by simp
  | x :: t => by
    obtain ⟨h1, h2⟩ := sum_lines t
    simp only [List.map_cons, List.sum_cons, List.length_cons]
    refine ⟨by omega, fun s hs => ?_⟩
    rcases List.mem_cons.1 hs with rfl | hs
    · omega
    · have := h2 s hs; omega
def blank (c : UInt8) : Bool := ([32, 9] : List UInt8).contains c
/-- Blanks and tabs at both ends away. -/
def tr (l : List UInt8) : List UInt8 := Lib.trimS l [32, 9]
def rdw (p : UInt8 → Bool) (l : List UInt8) : List UInt8 := (l.reverse.dropWhile p).reverse
theorem rdw_cons (p : UInt8 → Bool) (x : UInt8) (t : List UInt8) : rdw p (x :: t) = if rdw p t = [] then (if p x = true then [] else [x]) else x :: rdw p t := by
  unfold rdw
  rw [List.reverse_cons, List.dropWhile_append]
  by_cases h : (t.reverse.dropWhile p) = []
  · rw [h]
    by_cases hx : p x = true <;> simp [hx, List.dropWhile]
  · have h' : ¬ (t.reverse.dropWhile p).reverse = [] := fun e => h (List.reverse_eq_nil_iff.1 e)
    rw [if_neg h', if_neg (by simpa using h)]
    simp
theorem rdw_comm (p : UInt8 → Bool) : ∀ l : List UInt8, (rdw p l).dropWhile p = rdw p (l.dropWhile p)
  | [] => rfl
  | x :: t => by
    have ih := rdw_comm p t
    by_cases hx : p x = true
    · rw [List.dropWhile_cons, if_pos hx, ← ih, rdw_cons]
      by_cases h : rdw p t = []
      · rw [if_pos h, if_pos hx, h]
      · rw [if_neg h, List.dropWhile_cons, if_pos hx]
    · rw [List.dropWhile_cons, if_neg hx, rdw_cons]
      by_cases h : rdw p t = []
      · rw [if_pos h, if_neg hx, List.dropWhile_cons, if_neg hx]
      · rw [if_neg h, List.dropWhile_cons, if_neg hx]
theorem tr_eq (l : List UInt8) : tr l = rdw blank (l.dropWhile blank) := by
  rw [← rdw_comm]; rfl
theorem tr_nil : tr [] = [] := rfl
theorem length_dropWhile_le (p : UInt8 → Bool) : ∀ l : List UInt8, (l.dropWhile p).length ≤ l.length
  | [] => Nat.le_refl _
  | x :: t => by
    rw [List.dropWhile_cons]
    have := length_dropWhile_le p t
    split <;> simp only [List.length_cons] <;> omega
theorem tr_len (l : List UInt8) : (tr l).length ≤ l.length := by
  rw [tr_eq]
  unfold rdw
  have h1 := length_dropWhile_le blank (l.dropWhile blank).reverse
  have h2 := length_dropWhile_le blank l
  simp only [List.length_reverse] at h1 ⊢
  omega
/-- Nothing blank at the ends: it stays. -/
theorem dropWhile_idem (p : UInt8 → Bool) : ∀ l : List UInt8, (l.dropWhile p).dropWhile p = l.dropWhile p
  | [] => rfl
  | x :: t => by
    by_cases hx : p x = true
    · rw [List.dropWhile_cons, if_pos hx]; exact dropWhile_idem p t
    · rw [List.dropWhile_cons, if_neg hx, List.dropWhile_cons, if_neg hx]
theorem tr_tr (l : List UInt8) : tr (tr l) = tr l := by
  have e : ∀ m, tr m = (rdw blank m).dropWhile blank := fun m => by rw [tr_eq, rdw_comm]
  have r2 : ∀ m, rdw blank (rdw blank m) = rdw blank m := fun m => by unfold rdw; rw [List.reverse_reverse, dropWhile_idem]
  rw [e (tr l), tr_eq l, r2, rdw_comm, dropWhile_idem]
/-- Where the first piece ends, from a state on. -/
def pc : Bool → List UInt8 → Nat
  | _, [] => 0
  | q, c :: t =>
    if c = 34 then 1 + pc (!q) t
    else if q = true ∧ c = 92 then (match t with | [] => 1 | _ :: u => 2 + pc q u)
    else if c = 44 ∧ q = false then 0
    else 1 + pc q t
theorem pc_cons (q : Bool) (c : UInt8) (t : List UInt8) : pc q (c :: t) = if c = 34 then 1 + pc (!q) t else if q = true ∧ c = 92 then (match t with | [] => 1 | _ :: u => 2 + pc q u) else if c = 44 ∧ q = false then 0 else 1 + pc q t := by rw [pc.eq_def]
theorem pc_le : ∀ (l : List UInt8) (q : Bool), pc q l ≤ l.length
  | [], q => by simp [pc]
  | [c], q => by
    have : ∀ q, pc q ([] : List UInt8) = 0 := fun _ => rfl
    unfold pc
    (repeat' split) <;> simp_all [pc]
  | c :: d :: u, q => by
    have h1 := pc_le (d :: u) (!q)
    have h2 := pc_le (d :: u) q
    have h3 := pc_le u q
    unfold pc
    simp only [List.length_cons] at h1 h2 ⊢
    split
    · omega
    · split
      · omega
      · split <;> omega
def one (l : List UInt8) : List (List UInt8) := if tr l = [] then [] else [tr l]
/-- The pieces of one value: what has been gone through since the last cut, the state, the rest. -/
def rf : List UInt8 → Bool → List UInt8 → List (List UInt8)
  | cur, _, [] => one cur
  | cur, q, c :: t =>
    if c = 34 then rf (cur ++ [c]) (!q) t
    else if q = true ∧ c = 92 then (match t with | [] => one (cur ++ [c]) | d :: u => rf (cur ++ [c, d]) q u)
    else if c = 44 ∧ q = false then one cur ++ rf [] false t
    else rf (cur ++ [c]) q t
theorem rf_cons (cur : List UInt8) (q : Bool) (c : UInt8) (t : List UInt8) : rf cur q (c :: t) = if c = 34 then rf (cur ++ [c]) (!q) t else if q = true ∧ c = 92 then (match t with | [] => one (cur ++ [c]) | d :: u => rf (cur ++ [c, d]) q u) else if c = 44 ∧ q = false then one cur ++ rf [] false t else rf (cur ++ [c]) q t := by rw [rf.eq_def]
theorem rf_plain (cur : List UInt8) (q : Bool) (c : UInt8) (t : List UInt8) (h : ¬ (q = true ∧ c = 92)) : rf cur q (c :: t) = if c = 34 then rf (cur ++ [c]) (!q) t else if c = 44 ∧ q = false then one cur ++ rf [] false t else rf (cur ++ [c]) q t := by rw [rf_cons, if_neg h]
def pieces (l : List UInt8) : List (List UInt8) := rf [] false l
theorem rf_pc : ∀ (l cur : List UInt8) (q : Bool), rf cur q l = one (cur ++ l.take (pc q l)) ++ (if pc q l < l.length then pieces (l.drop (pc q l + 1)) else [])
  | [], cur, q => by simp [rf, pc]
  | [c], cur, q => by
    have h0 : ∀ q, pc q ([] : List UInt8) = 0 := fun _ => rfl
    have h1 : ∀ cur q, rf cur q [] = one cur := fun _ _ => rfl
    unfold rf pc
    by_cases e1 : c = 34
    · simp [e1, h0, h1]
    · by_cases e2 : q = true ∧ c = 92
      · simp [e1, e2]
      · by_cases e3 : c = 44 ∧ q = false
        · simp [e3, pieces, h1]
        · rw [if_neg e1, if_neg e2, if_neg e3, if_neg e1, if_neg e2, if_neg e3, h0, h1]
          simp
  | c :: d :: u, cur, q => by
    have i1 := rf_pc (d :: u) (cur ++ [c]) (!q)
    have i2 := rf_pc (d :: u) (cur ++ [c]) q
    have i3 := rf_pc u (cur ++ [c, d]) q
    rw [rf, pc]
    by_cases e1 : c = 34
    · rw [if_pos e1, if_pos e1, i1]
      rw [show (1 + pc (!q) (d :: u)) = pc (!q) (d :: u) + 1 from by omega, List.take_succ_cons, List.drop_succ_cons]
      simp only [List.length_cons, List.append_assoc, List.cons_append, List.nil_append]
      congr 1
      by_cases hlt : pc (!q) (d :: u) < u.length + 1
      · rw [if_pos hlt, if_pos (by omega)]; simp only [List.drop_succ_cons]
      · rw [if_neg hlt, if_neg (by omega)]
    · rw [if_neg e1, if_neg e1]
      by_cases e2 : q = true ∧ c = 92
      · rw [if_pos e2, if_pos e2]
        show rf (cur ++ [c, d]) q u = one (cur ++ (c :: d :: u).take (2 + pc q u)) ++ (if 2 + pc q u < (c :: d :: u).length then pieces ((c :: d :: u).drop (2 + pc q u + 1)) else [])
        rw [i3, show 2 + pc q u = pc q u + 1 + 1 from by omega, List.take_succ_cons, List.take_succ_cons, List.drop_succ_cons, List.drop_succ_cons]
        simp only [List.length_cons, List.append_assoc, List.cons_append, List.nil_append]
        congr 1
        by_cases hlt : pc q u < u.length
        · rw [if_pos hlt, if_pos (by omega)]
        · rw [if_neg hlt, if_neg (by omega)]
      · rw [if_neg e2, if_neg e2]
        by_cases e3 : c = 44 ∧ q = false
        · rw [if_pos e3, if_pos e3]
          simp [pieces]
        · rw [if_neg e3, if_neg e3, i2]
          rw [show (1 + pc q (d :: u)) = pc q (d :: u) + 1 from by omega, List.take_succ_cons, List.drop_succ_cons]
          simp only [List.length_cons, List.append_assoc, List.cons_append, List.nil_append]
          congr 1
          by_cases hlt : pc q (d :: u) < u.length + 1
          · rw [if_pos hlt, if_pos (by omega)]; simp only [List.drop_succ_cons]
          · rw [if_neg hlt, if_neg (by omega)]
theorem pieces_nil : pieces [] = [] := by simp [pieces, rf, one, tr_nil]
theorem pieces_pc (l : List UInt8) : pieces l = one (l.take (pc false l)) ++ (if pc false l < l.length then pieces (l.drop (pc false l + 1)) else []) := by
  have := rf_pc l [] false
  rw [List.nil_append] at this
  exact this
/-- The same where the rest is cut as the program cuts it. -/
theorem pieces_cut (l : List UInt8) : pieces l = one (l.take (pc false l)) ++ pieces (l.drop (min (pc false l + 1) l.length)) := by
  have h := pc_le l false
  rw [pieces_pc l]
  by_cases hlt : pc false l < l.length
  · rw [if_pos hlt, Nat.min_eq_left (by omega)]
  · rw [if_neg hlt, Nat.min_eq_right (by omega), List.drop_length, pieces_nil]
theorem one_len (l : List UInt8) : (one l).length ≤ 1 := by unfold one; split <;> simp
theorem pieces_len : ∀ (n : Nat) (l : List UInt8), l.length ≤ n → (pieces l).length ≤ l.length + 1
  | 0, l, h => by
    have : l = [] := by cases l <;> simp_all
    subst this; rw [pieces_nil]; simp
  | n + 1, l, h => by
    rw [pieces_pc l]
    have h1 := one_len (l.take (pc false l))
    by_cases hlt : pc false l < l.length
    · rw [if_pos hlt, List.length_append]
      have h2 := pieces_len n (l.drop (pc false l + 1)) (by rw [List.length_drop]; omega)
      rw [List.length_drop] at h2
      omega
    · rw [if_neg hlt, List.length_append]
      simp only [List.length_nil]; omega
/-- The pieces of several values. -/
def splits (v : List ByteArray) : List (List UInt8) := v.flatMap fun s => pieces (B s)
theorem sum_size : ∀ (l : List ByteArray), l.length ≤ (l.map fun y => (y.size + 1)).sum ∧ ∀ s ∈ l, s.size + 1 ≤ (l.map fun y => (y.size + 1)).sum
  | [] => by simp
  | x :: t => by
    obtain ⟨h1, h2⟩ := sum_size t
    simp only [List.map_cons, List.sum_cons, List.length_cons]
    refine ⟨by omega, fun s hs => ?_⟩
    rcases List.mem_cons.1 hs with rfl | hs
    · omega
    · have := h2 s hs; omega
theorem pieces_small : ∀ (n : Nat) (l : List UInt8), l.length ≤ n → ∀ x ∈ pieces l, x.length ≤ l.length
  | 0, l, h => by
    have : l = [] := by cases l <;> simp_all
    subst this; rw [pieces_nil]; simp
  | n + 1, l, h => by
    intro x hx
    rw [pieces_pc l] at hx
    rcases List.mem_append.1 hx with hx | hx
    · unfold one at hx
      split at hx
      · simp at hx
      · have e : x = tr (l.take (pc false l)) := by simpa using hx
        have h1 := tr_len (l.take (pc false l))
        have h2 := List.length_take_le (pc false l) l
        have h3 := pc_le l false
        rw [e]
        rw [List.length_take] at h1 h2
        omega
    · split at hx
      · have := pieces_small n (l.drop (pc false l + 1)) (by rw [List.length_drop]; omega) x hx
        rw [List.length_drop] at this; omega
      · simp at hx
theorem splits_small {N : Nat} (v : List ByteArray) (hb : ∀ s ∈ v, s.size ≤ N) : ∀ x ∈ splits v, x.length ≤ N := by
  intro x hx
  obtain ⟨s, hs, hx⟩ := List.mem_flatMap.1 hx
  have h1 := pieces_small _ (B s) (Nat.le_refl _) x hx
  have h2 := hb s hs
  rw [size_B] at h2; omega
theorem splits_few : ∀ (v : List ByteArray), (splits v).length ≤ (v.map fun y => (y.size + 1)).sum
  | [] => by simp [splits]
  | s :: t => by
    have h1 := splits_few t
    have h2 := pieces_len (B s).length (B s) (Nat.le_refl _)
    rw [← size_B] at h2
    simp only [splits, List.flatMap_cons, List.length_append, List.map_cons, List.sum_cons] at h1 ⊢
    omega
def cutL : List UInt8 → List UInt8 × List UInt8 × Bool
  | [] => ([], [], false)
  | c :: t => if c = 61 then ([], t, true) else (c :: (cutL t).1, (cutL t).2.1, (cutL t).2.2)
theorem cutL_len : ∀ l : List UInt8, (cutL l).1.length ≤ l.length ∧ (cutL l).2.1.length ≤ l.length ∧ ((cutL l).2.2 = false → (cutL l).1 = l ∧ (cutL l).2.1 = []) ∧ ((cutL l).2.2 = true → (cutL l).1.length < l.length ∧ (cutL l).2.1 = l.drop ((cutL l).1.length + 1))
  | [] => by simp [cutL]
  | c :: t => by
    obtain ⟨h1, h2, h3, h4⟩ := cutL_len t
    unfold cutL
    by_cases hc : c = 61
    · rw [if_pos hc]; simp
    · rw [if_neg hc]
      refine ⟨by simp only [List.length_cons]; omega, by simp only [List.length_cons]; omega, fun h => ?_, fun h => ?_⟩
      · obtain ⟨a, b⟩ := h3 h
        exact ⟨by show c :: (cutL t).1 = _; rw [a], b⟩
      · obtain ⟨a, b⟩ := h4 h
        exact ⟨by simp only [List.length_cons]; omega, by simp only [List.length_cons, List.drop_succ_cons]; exact b⟩
theorem cutL_idx : ∀ l : List UInt8, -1 ≤ Lib.indexByte l 61 ∧ (if Lib.indexByte l 61 ≥ 0 then cutL l = (l.take (Lib.indexByte l 61).toNat, l.drop (Lib.indexByte l 61 + 1).toNat, true) else cutL l = (l, [], false))
  | [] => by simp [Lib.indexByte, cutL]
  | c :: t => by
    obtain ⟨h0, h1⟩ := cutL_idx t
    unfold cutL Lib.indexByte
    by_cases hc : c = 61
    · rw [if_pos hc, if_pos (by rw [hc]; rfl)]; simp
    · rw [if_neg hc, if_neg (by simpa using hc)]
      by_cases hi : Lib.indexByte t 61 = -1
      · rw [if_pos (by rw [hi]; rfl)]
        rw [hi, if_neg (by omega)] at h1
        refine ⟨by omega, ?_⟩
        rw [if_neg (by omega), h1]
      · rw [if_neg (by simpa using hi)]
        rw [if_pos (by omega)] at h1
        refine ⟨by omega, ?_⟩
        rw [if_pos (by omega), h1]
        obtain ⟨n, hn⟩ : ∃ n : Nat, Lib.indexByte t 61 = n := ⟨(Lib.indexByte t 61).toNat, by omega⟩
        rw [hn]
        have e1 : ((n : Int) + 1).toNat = n + 1 := by omega
        have e2 : ((n : Int) + 1 + 1).toNat = n + 2 := by omega
        rw [e1, e2]
        simp
/-! what Cache-Control says, piece by piece -/
def secVal : List UInt8 → Int → Option Int
  | [], n => some n
  | c :: t, n => if 48 ≤ c.toNat ∧ c.toNat ≤ 57 then secVal t (mn (n * 10 + ((c.toNat : Int) - 48)) 2147483648) else none
def secsOf (l : List UInt8) : Int × Bool := if l = [] ∨ 4000 < l.length then (0, false) else match secVal l 0 with | some n => (n, true) | none => (0, false)
def unq (l : List UInt8) : List UInt8 := if 2 ≤ l.length ∧ l[0]? = some 34 ∧ l[l.length - 1]? = some 34 then (l.drop 1).take (l.length - 2) else l
/-- What a piece says: which name, is there a number, which. -/
def dirOf (l : List UInt8) : Nat × Bool × Int × Bool :=
  (Own.kindOf (Own.low (mk (tr (cutL l).1))), (cutL l).2.2, (secsOf (unq (tr (cutL l).2.1))).1, (secsOf (unq (tr (cutL l).2.1))).2)
def actD (c : Own.Ctl) (d : Nat × Bool × Int × Bool) : Own.Ctl := c.act d.1 d.2.1 d.2.2.1 d.2.2.2
def actL (c : Own.Ctl) (l : List UInt8) : Own.Ctl := actD c (dirOf l)
/-- What values say. -/
def ctlOf (v : List ByteArray) : Own.Ctl := ((splits v).foldl actL Own.Ctl.zero).fin
theorem least_comm (p q : Bool) (h : Bool) (x n m : Int) : (if q = true then Own.leastOf (h || p) (if p = true then Own.leastOf h x n else x) m else (if p = true then Own.leastOf h x n else x)) = (if p = true then Own.leastOf (h || q) (if q = true then Own.leastOf h x m else x) n else (if q = true then Own.leastOf h x m else x)) := by
  cases p <;> cases q <;> cases h <;> simp [Own.leastOf] <;> (repeat' split) <;> omega
theorem greatest_comm (p q : Bool) (x n m : Int) : (if q = true then Own.greatestOf (if p = true then Own.greatestOf x n else x) m else (if p = true then Own.greatestOf x n else x)) = (if p = true then Own.greatestOf (if q = true then Own.greatestOf x m else x) n else (if q = true then Own.greatestOf x m else x)) := by
  cases p <;> cases q <;> simp [Own.greatestOf] <;> (repeat' split) <;> omega
theorem act_comm (c : Own.Ctl) (d e : Nat × Bool × Int × Bool) : actD (actD c d) e = actD (actD c e) d := by
  unfold actD Own.Ctl.act
  simp only [Own.Ctl.mk.injEq]
  exact ⟨Bool.or_right_comm _ _ _, Bool.or_right_comm _ _ _, Bool.or_right_comm _ _ _, Bool.or_right_comm _ _ _, Bool.or_right_comm _ _ _, Bool.or_right_comm _ _ _, Bool.or_right_comm _ _ _, Bool.or_right_comm _ _ _, Bool.or_right_comm _ _ _, Bool.or_right_comm _ _ _, Bool.or_right_comm _ _ _,
    Bool.or_right_comm _ _ _, least_comm _ _ _ _ _ _, Bool.or_right_comm _ _ _, least_comm _ _ _ _ _ _, Bool.or_right_comm _ _ _, least_comm _ _ _ _ _ _, Bool.or_right_comm _ _ _, greatest_comm _ _ _ _ _, Bool.or_right_comm _ _ _, least_comm _ _ _ _ _ _⟩
theorem act_perm {l m : List (List UInt8)} (h : l.Perm m) (c : Own.Ctl) : l.foldl actL c = m.foldl actL c := by
  induction h generalizing c with
  | nil => rfl
  | cons x _ ih => exact ih _
  | swap x y l => simp only [List.foldl_cons]; unfold actL; rw [act_comm]
  | trans _ _ ih1 ih2 => rw [ih1, ih2]
/-- No less strict: what is told stays told, numbers only sink (one rises). -/
structure Str (a b : Own.Ctl) : Prop where
  b0 : a.b0 = true → b.b0 = true
  b1 : a.b1 = true → b.b1 = true
  b2 : a.b2 = true → b.b2 = true
  b3 : a.b3 = true → b.b3 = true
  b4 : a.b4 = true → b.b4 = true
  b5 : a.b5 = true → b.b5 = true
  b6 : a.b6 = true → b.b6 = true
  b7 : a.b7 = true → b.b7 = true
  b8 : a.b8 = true → b.b8 = true
  b9 : a.b9 = true → b.b9 = true
  h0 : a.h0 = true → b.h0 = true ∧ b.n0 ≤ a.n0
  h1 : a.h1 = true → b.h1 = true ∧ b.n1 ≤ a.n1
  h2 : a.h2 = true → b.h2 = true ∧ b.n2 ≤ a.n2
  h3 : a.h3 = true → b.h3 = true ∧ a.n3 ≤ b.n3
  h4 : a.h4 = true → b.h4 = true ∧ b.n4 ≤ a.n4
theorem Str.refl (a : Own.Ctl) : Str a a := ⟨id, id, id, id, id, id, id, id, id, id, fun h => ⟨h, Int.le_refl _⟩, fun h => ⟨h, Int.le_refl _⟩, fun h => ⟨h, Int.le_refl _⟩, fun h => ⟨h, Int.le_refl _⟩, fun h => ⟨h, Int.le_refl _⟩⟩
theorem Str.trans {a b c : Own.Ctl} (h : Str a b) (k : Str b c) : Str a c :=
  ⟨fun x => k.b0 (h.b0 x), fun x => k.b1 (h.b1 x), fun x => k.b2 (h.b2 x), fun x => k.b3 (h.b3 x), fun x => k.b4 (h.b4 x), fun x => k.b5 (h.b5 x), fun x => k.b6 (h.b6 x), fun x => k.b7 (h.b7 x), fun x => k.b8 (h.b8 x), fun x => k.b9 (h.b9 x),
    fun x => ⟨(k.h0 (h.h0 x).1).1, Int.le_trans (k.h0 (h.h0 x).1).2 (h.h0 x).2⟩, fun x => ⟨(k.h1 (h.h1 x).1).1, Int.le_trans (k.h1 (h.h1 x).1).2 (h.h1 x).2⟩, fun x => ⟨(k.h2 (h.h2 x).1).1, Int.le_trans (k.h2 (h.h2 x).1).2 (h.h2 x).2⟩, fun x => ⟨(k.h3 (h.h3 x).1).1, Int.le_trans (h.h3 x).2 (k.h3 (h.h3 x).1).2⟩, fun x => ⟨(k.h4 (h.h4 x).1).1, Int.le_trans (k.h4 (h.h4 x).1).2 (h.h4 x).2⟩⟩
theorem or_told {a p : Bool} : a = true → (a || p) = true := fun h => by rw [h]; rfl
theorem least_told {p : Bool} {h : Bool} {x n : Int} (e : h = true) : (h || p) = true ∧ (if p = true then Own.leastOf h x n else x) ≤ x := by
  subst e
  refine ⟨rfl, ?_⟩
  cases p <;> simp [Own.leastOf]
  split <;> omega
theorem greatest_told {p : Bool} {h : Bool} {x n : Int} (e : h = true) : (h || p) = true ∧ x ≤ (if p = true then Own.greatestOf x n else x) := by
  subst e
  refine ⟨rfl, ?_⟩
  cases p <;> simp [Own.greatestOf]
  split <;> omega
theorem Str.act (c : Own.Ctl) (l : List UInt8) : Str c (actL c l) :=
  ⟨or_told, or_told, or_told, or_told, or_told, or_told, or_told, or_told, or_told, or_told, least_told, least_told, least_told, greatest_told, least_told⟩
theorem Str.fold : ∀ (m : List (List UInt8)) (c : Own.Ctl), Str c (m.foldl actL c)
  | [], c => Str.refl c
  | x :: t, c => (Str.act c x).trans (Str.fold t _)
theorem Str.fin {a b : Own.Ctl} (h : Str a b) : Str a.fin b.fin := ⟨h.b0, h.b1, h.b2, h.b3, h.b4, h.b5, h.b6, h.b7, h.b8, h.b9, h.h0, h.h1, h.h2, h.h3, h.h4⟩
theorem splits_append (v w : List ByteArray) : splits (v ++ w) = splits v ++ splits w := by unfold splits; rw [List.flatMap_append]
theorem ctl_more (v w : List ByteArray) : Str (ctlOf v) (ctlOf (v ++ w)) := by
  unfold ctlOf
  rw [splits_append, List.foldl_append]
  exact (Str.fold _ _).fin
theorem ctl_turn (v w : List ByteArray) : ctlOf (v ++ w) = ctlOf (w ++ v) := by
  unfold ctlOf
  rw [splits_append, splits_append, act_perm List.perm_append_comm]
theorem Cut_ok (s : ByteArray) (hs : s.size ≤ 1000000000) : strings_Cut.f s (⟨#[61]⟩ : ByteArray) = some (mk (cutL (B s)).1, mk (cutL (B s)).2.1, (cutL (B s)).2.2) := by
  unfold strings_Cut.f
  rw [if_pos (by omega)]
  show some (strings_Cut.val s 61) = _
  congr 1
  obtain ⟨h0, h1⟩ := cutL_idx (B s)
  unfold strings_Cut.val
  show (if Lib.indexByte (B s) 61 ≥ 0 then _ else _) = _
  by_cases h : Lib.indexByte (B s) 61 ≥ 0
  · rw [if_pos h] at h1 ⊢
    rw [h1]
    refine Prod.ext (B_inj ?_) (Prod.ext (B_inj ?_) rfl)
    · show B (s.extract 0 _) = _; rw [B_to]; rfl
    · show B (s.extract _ s.size) = _; rw [B_from]; rfl
  · rw [if_neg h] at h1 ⊢
    rw [h1, mk_B]; rfl
theorem Trim_ok (s : ByteArray) (h : s.size ≤ 9223372036854775807) : head_Trim.f s = some (mk (tr (B s))) := by
  unfold head_Trim.f strings_Trim.f
  rw [if_pos h, if_pos rfl]
  rfl
theorem piece_loop (s : ByteArray) (hs : s.size ≤ 1000000000) : ∀ (n : Nat) (l : List UInt8) (i : Nat) (q : Bool), l.length ≤ n → (B s).drop i = l → i ≤ s.size →
    Ev (fun k => head_piece.l0 k s q (i : Int)) ((i + pc q l : Nat) : Int)
  | n, [], i, q, hn, hl, hi => by
    have h1 := end_drop hl
    have e : i = s.size := by omega
    refine Ev.step (fun _ => head_piece.l0.eq_2 ..) (Ev.neg (by omega) (Ev.konst ?_))
    simp [pc, e]
  | 0, c :: t, i, q, hn, hl, hi => by simp at hn
  | n + 1, c :: t, i, q, hn, hl, hi => by
    obtain ⟨h1, h2, h3⟩ := bt_drop hl
    simp only [List.length_cons] at hn
    have w1 : wrap64 ((i : Int) + 1) = ((i + 1 : Nat) : Int) := by rw [wrap_id (by omega) (by omega)]; omega
    have w2 : wrap64 (((i + 1 : Nat) : Int) + 1) = ((i + 2 : Nat) : Int) := by rw [wrap_id (by omega) (by omega)]; omega
    refine Ev.step (fun _ => head_piece.l0.eq_2 ..) (Ev.pos (by omega) (Ev.pos (by omega) ?_))
    rw [h1, w1, pc_cons]
    by_cases e1 : c = 34
    · rw [if_pos e1]
      refine Ev.pos ((u8_eq c 34 (by omega)).2 e1) ?_
      have := piece_loop s hs n t (i + 1) (!q) (by omega) h3 (by omega)
      rw [show i + (1 + pc (!q) t) = i + 1 + pc (!q) t from by omega]
      exact this
    · rw [if_neg e1]
      refine Ev.neg (fun h => e1 ((u8_eq c 34 (by omega)).1 h)) ?_
      have tail : ∀ b, ¬ b = true → (¬ (q = true ∧ c = 92)) → Ev (fun k => head_piece.j1 k s q (i : Int) b) ((i + (if c = 44 ∧ q = false then 0 else 1 + pc q t) : Nat) : Int) := by
        intro b hb hq
        refine Ev.step (fun _ => head_piece.j1.eq_2 ..) (Ev.neg hb (Ev.pos (by omega) (Ev.pos (by omega) ?_)))
        rw [h1, w1]
        by_cases e3 : c = 44
        · refine Ev.pos ((u8_eq c 44 (by omega)).2 e3) ?_
          cases q with
          | true =>
            rw [if_neg (by simp)]
            refine Ev.pos rfl ?_
            have := piece_loop s hs n t (i + 1) true (by omega) h3 (by omega)
            rw [show i + (1 + pc true t) = i + 1 + pc true t from by omega]
            exact this
          | false =>
            rw [if_pos ⟨e3, rfl⟩]
            exact Ev.neg (by simp) (Ev.now _)
        · rw [if_neg (fun h => e3 h.1)]
          refine Ev.neg (fun h => e3 ((u8_eq c 44 (by omega)).1 h)) ?_
          have := piece_loop s hs n t (i + 1) q (by omega) h3 (by omega)
          rw [show i + (1 + pc q t) = i + 1 + pc q t from by omega]
          exact this
      cases q with
      | false =>
        rw [if_neg (by simp)]
        exact Ev.neg (by simp) (tail false (by simp) (by simp))
      | true =>
        refine Ev.pos rfl ?_
        by_cases e2 : c = 92
        · rw [if_pos ⟨rfl, e2⟩, show ((c.toNat : Int) == 92) = true from by simpa using (u8_eq c 92 (by omega)).2 e2]
          refine Ev.step (fun _ => head_piece.j1.eq_2 ..) (Ev.pos rfl ?_)
          rw [w1, w2]
          cases t with
          | nil =>
            have h4 := end_drop h3
            refine Ev.step (fun _ => head_piece.l0.eq_2 ..) (Ev.neg (by omega) (Ev.konst ?_))
            simp; omega
          | cons d u =>
            obtain ⟨_, h5, h6⟩ := bt_drop h3
            simp only [List.length_cons] at hn
            have := piece_loop s hs n u (i + 2) true (by omega) h6 (by omega)
            show Ev _ ((i + (2 + pc true u) : Nat) : Int)
            rw [show i + (2 + pc true u) = i + 2 + pc true u from by omega]
            exact this
        · rw [if_neg (fun h => e2 h.2), show ((c.toNat : Int) == 92) = false from by simpa using fun h => e2 ((u8_eq c 92 (by omega)).1 h)]
          exact tail false (by simp) (fun h => e2 h.2)
theorem piece_ok (s : ByteArray) (hs : s.size ≤ 1000000000) : Ev (fun k => head_piece.f k s) ((pc false (B s) : Nat) : Int) := by
  unfold head_piece.f
  have := piece_loop s hs (B s).length (B s) 0 false (Nat.le_refl _) rfl (by omega)
  rw [Nat.zero_add] at this
  exact this
theorem mn_nat (a b : Nat) : mn (a : Int) (b : Int) = ((min a b : Nat) : Int) := by
  unfold mn; split <;> omega
/-- One value is gone through; what follows is told. -/
theorem split_one (v : List ByteArray) (m : Int) (j : Int) {r : List ByteArray} (bd : Nat) (hbd : bd ≤ 1000000000) : ∀ (n : Nat) (s : ByteArray) (acc : List ByteArray), s.size ≤ n → s.size ≤ 1000000000 → acc.length + s.size + 1 ≤ bd →
    Ev (fun k => head_Split.l0 k (acc ++ (pieces (B s)).map mk) v m (wrap64 (j + 1))) r → Ev (fun k => head_Split.l1 k acc s v m j) r
  | n, s, acc, hn, hs, ha, hr => by
    refine Ev.step (fun _ => head_Split.l1.eq_2 ..) ?_
    by_cases he : B s = []
    · rw [he, pieces_nil] at hr
      simp only [List.map_nil, List.append_nil] at hr
      exact Ev.pos (by rw [toList_B, he]) hr
    · have hne : ¬ s.toList = [] := by rw [toList_B]; exact he
      have hp := pc_le (B s) false
      rw [← size_B] at hp
      have hpos : 0 < s.size := by
        rw [size_B]
        cases h : B s with
        | nil => exact absurd h he
        | cons _ _ => simp
      have w1 : wrap64 (((pc false (B s) : Nat) : Int) + 1) = ((pc false (B s) + 1 : Nat) : Int) := by rw [wrap_id (by omega) (by omega)]; omega
      have e1 : ((mn ((pc false (B s) + 1 : Nat) : Int) (s.size : Int)) : Int).toNat = min (pc false (B s) + 1) s.size := by rw [mn_nat]; exact Int.toNat_natCast _
      have h0 : 0 ≤ mn ((pc false (B s) + 1 : Nat) : Int) (s.size : Int) := by rw [mn_nat]; omega
      have h1 : mn ((pc false (B s) + 1 : Nat) : Int) (s.size : Int) ≤ (s.size : Int) := by rw [mn_nat]; omega
      have cut := pieces_cut (B s)
      have eT : head_Trim.f (s.extract 0 ((pc false (B s) : Nat) : Int).toNat) = some (mk (tr ((B s).take (pc false (B s))))) := by
        rw [Trim_ok _ (by rw [size_B, B_to]; have := List.length_take_le (pc false (B s)) (B s); simp only [Int.toNat_natCast] at *; rw [← size_B] at *; omega), B_to, Int.toNat_natCast]
      have hrest : B (s.extract (min (pc false (B s) + 1) s.size) s.size) = (B s).drop (min (pc false (B s) + 1) (B s).length) := by rw [B_from, ← size_B]
      have hsz : (s.extract (min (pc false (B s) + 1) s.size) s.size).size = s.size - min (pc false (B s) + 1) s.size := by rw [size_B, B_from, List.length_drop, ← size_B]
      refine Ev.neg hne (Ev.bind (piece_ok s hs) (Ev.pos (by omega) (Ev.pos (by omega) (Ev.bnd eT ?_))))
      rw [w1, e1]
      obtain ⟨n, rfl⟩ : ∃ m, n = m + 1 := ⟨n - 1, by omega⟩
      by_cases hz : tr ((B s).take (pc false (B s))) = []
      · refine Ev.pos (by rw [toList_B, B_mk, hz]) (Ev.pos h0 (Ev.pos h1 ?_))
        refine split_one v m j bd hbd n _ acc (by rw [hsz]; omega) (by rw [hsz]; omega) (by rw [hsz]; omega) ?_
        rw [hrest]
        rw [cut, one, if_pos hz, List.nil_append] at hr
        exact hr
      · refine Ev.neg (by rw [toList_B, B_mk]; exact hz) (Ev.pos (by omega) (Ev.pos h0 (Ev.pos h1 ?_)))
        refine split_one v m j bd hbd n _ _ (by rw [hsz]; omega) (by rw [hsz]; omega) (by rw [hsz]; simp only [List.length_append, List.length_cons, List.length_nil]; omega) ?_
        rw [hrest]
        rw [cut, one, if_neg hz] at hr
        simpa using hr
theorem split_loop (v : List ByteArray) (hv : v.length ≤ 1000000) (hb : ∀ s ∈ v, s.size ≤ 1100000) : ∀ (l : List ByteArray) (i : Nat) (acc : List ByteArray), v.drop i = l → acc.length ≤ 1100001 * i → i + l.length ≤ 400 →
    Ev (fun k => head_Split.l0 k acc v (v.length : Int) (i : Int)) (acc ++ (splits l).map mk)
  | [], i, acc, hl, ha, hi => by
    have := drop_nil hl
    refine Ev.step (fun _ => head_Split.l0.eq_2 ..) (Ev.neg (by omega) (Ev.konst ?_))
    simp [splits]
  | s :: t, i, acc, hl, ha, hi => by
    obtain ⟨h1, h2, h3⟩ := drop_cons hl
    have hs := hb s (List.mem_of_getElem? h2)
    have hp := pieces_len (B s).length (B s) (Nat.le_refl _)
    rw [← size_B] at hp
    simp only [List.length_cons] at hi
    refine Ev.step (fun _ => head_Split.l0.eq_2 ..) (Ev.pos (by omega) (Ev.pos (by omega) (Ev.pos (by omega) ?_)))
    rw [rdOf_of h2]
    refine split_one v _ _ 1000000000 (Nat.le_refl _) s.size s acc (Nat.le_refl _) (by omega) (by omega) ?_
    rw [wrap_id (by omega) (by omega), cast_succ]
    have hl' : (acc ++ (pieces (B s)).map mk).length ≤ 1100001 * (i + 1) := by rw [List.length_append, List.length_map]; omega
    have := split_loop v hv hb t (i + 1) _ h3 hl' (by omega)
    simpa [splits] using this
theorem Lower_ok {s : ByteArray} (h : s.size ≤ 9223372036854775807) : head_Lower.f s = some (Own.low s) := by
  unfold head_Lower.f; rw [if_pos h]
theorem mn_le (a b : Int) : mn a b ≤ b ∧ mn a b ≤ a := by unfold mn; split <;> omega
theorem mx_pos {a : Int} (h : 0 ≤ a) : mx a 0 = a := by unfold mx; split <;> omega
theorem Clip_ok {a : Int} (h : 0 ≤ a) : bits_Clip.f a = some (mn a 2147483648) := by unfold bits_Clip.f; rw [mx_pos h]
theorem Sec_loop (s : ByteArray) (hs : s.size ≤ 1000000000) : ∀ (t : List UInt8) (i : Nat) (n : Int), (B s).drop i = t → 0 ≤ n → n ≤ 2147483648 → Ev (fun k => cc_Seconds.l0 k s n (s.size : Int) (i : Int)) (match secVal t n with | some m => (m, true) | none => (0, false))
  | [], i, n, h, h0, h1 => by
    have := end_drop h
    exact Ev.step (fun _ => cc_Seconds.l0.eq_2 ..) (Ev.neg (by omega) (Ev.now _))
  | c :: t, i, n, h, h0, h1 => by
    obtain ⟨e1, e2, e3⟩ := bt_drop h
    have u := u8_lt c
    refine Ev.step (fun _ => cc_Seconds.l0.eq_2 ..) (Ev.pos (by omega) (Ev.pos (by omega) (Ev.pos (by omega) ?_)))
    rw [e1]
    unfold secVal
    by_cases a1 : (c.toNat : Int) < 48
    · rw [if_neg (by omega)]; exact Ev.pos a1 (Ev.now _)
    · refine Ev.neg a1 ?_
      by_cases a2 : (c.toNat : Int) > 57
      · rw [if_neg (by omega)]; exact Ev.pos a2 (Ev.now _)
      · refine Ev.neg a2 ?_
        rw [if_pos (by omega), wrap_id (x := n * 10) (by omega) (by omega), Int.emod_eq_of_lt (by omega) (by omega), wrap_id (x := n * 10 + _) (by omega) (by omega), wrap_id (x := (i : Int) + 1) (by omega) (by omega), cast_succ]
        have q := mn_le (n * 10 + ((c.toNat : Int) - 48)) 2147483648
        exact Ev.bnd (Clip_ok (by omega)) (Sec_loop s hs t (i + 1) _ e3 (by unfold mn; split <;> omega) q.1)
theorem Sec_ok (s : ByteArray) (hs : s.size ≤ 1000000000) : Ev (fun k => cc_Seconds.f k s) (secsOf (B s)) := by
  unfold cc_Seconds.f secsOf
  rw [toList_B]
  by_cases h : B s = []
  · rw [if_pos (Or.inl h)]
    exact Ev.pos h (Ev.step (fun _ => cc_Seconds.j0.eq_2 ..) (Ev.pos rfl (Ev.now _)))
  · refine Ev.neg h ?_
    rw [size_B]
    by_cases h2 : 4000 < (B s).length
    · rw [if_pos (Or.inr h2), decide_eq_true (by omega)]
      exact Ev.step (fun _ => cc_Seconds.j0.eq_2 ..) (Ev.pos rfl (Ev.now _))
    · rw [if_neg (by rintro (q | q); exact h q; exact h2 q), decide_eq_false (by omega)]
      exact Ev.step (fun _ => cc_Seconds.j0.eq_2 ..) (Ev.neg (by simp) (Sec_loop s hs (B s) 0 0 rfl (by omega) (by omega)))
theorem bt_at {s : ByteArray} {i : Nat} (h : i < s.size) : ∃ c, (B s)[i]? = some c ∧ bt s (i : Int) = (c.toNat : Int) := by
  have hl : i < (B s).length := by rw [← size_B]; exact h
  exact ⟨_, List.getElem?_eq_getElem hl, bt_of (List.getElem?_eq_getElem hl)⟩
theorem Unq_ok (s : ByteArray) (hs : s.size ≤ 1000000000) : cc_unquoted.f s = some (mk (unq (B s))) := by
  unfold cc_unquoted.f unq
  rw [← size_B]
  by_cases h : 2 ≤ s.size
  · rw [if_pos (by omega), if_pos (by omega)]
    obtain ⟨c, c1, c2⟩ := bt_at (s := s) (i := 0) (by omega)
    obtain ⟨d, d1, d2⟩ := bt_at (s := s) (i := s.size - 1) (by omega)
    have hw : wrap64 ((s.size : Int) - 1) = ((s.size - 1 : Nat) : Int) := by rw [wrap_id (by omega) (by omega)]; omega
    rw [hw, d2, show bt s 0 = (c.toNat : Int) from c2]
    by_cases a1 : (c.toNat : Int) = 34
    · rw [if_pos a1, if_pos (by omega), if_pos (by omega)]
      have b1 : c = 34 := (u8_eq c 34 (by omega)).1 a1
      by_cases a2 : (d.toNat : Int) = 34
      · have b2 : d = 34 := (u8_eq d 34 (by omega)).1 a2
        rw [if_pos a2, if_pos (by omega), if_pos (by omega), if_pos ⟨h, by rw [c1, b1], by rw [d1, b2]⟩]
        congr 1
        apply B_inj
        rw [B_extract, B_mk]
        congr 1
      · rw [if_neg a2, if_neg (fun q => a2 (by have := q.2.2; rw [d1] at this; rw [Option.some.inj this]; rfl)), mk_B]
    · rw [if_neg a1, if_neg (fun q => a1 (by have := q.2.1; rw [c1] at this; rw [Option.some.inj this]; rfl)), mk_B]
  · rw [if_neg (by omega), if_neg (fun q => h q.1), mk_B]
theorem unq_len (l : List UInt8) : (unq l).length ≤ l.length := by
  unfold unq
  split
  · rw [List.length_take, List.length_drop]; omega
  · omega
theorem step_ok (c : Own.Ctl) (p : List UInt8) (hp : p.length ≤ 1000000000) : Ev (fun k => cc_Parse.step k c (mk p)) (actL c p) := by
  obtain ⟨h1, h2, h3, h4⟩ := cutL_len p
  have t1 := tr_len (cutL p).1
  have t2 := tr_len (cutL p).2.1
  have t3 := unq_len (tr (cutL p).2.1)
  have z : ∀ l : List UInt8, (mk l).size = l.length := fun l => size_B (mk l)
  unfold cc_Parse.step
  refine Ev.bnd (Cut_ok (mk p) (by rw [z]; omega)) ?_
  rw [B_mk]
  refine Ev.bnd (Trim_ok _ (by show (mk _).size ≤ _; rw [z]; omega)) (Ev.bnd (Lower_ok (by show (mk _).size ≤ _; rw [z]; show (tr (cutL p).1).length ≤ _; omega)) (Ev.bnd (Trim_ok _ (by show (mk _).size ≤ _; rw [z]; omega)) (Ev.bnd (Unq_ok _ (by rw [z]; show (tr (cutL p).2.1).length ≤ _; omega)) ?_)))
  refine Ev.bind (Sec_ok _ (by rw [z]; show (unq (tr (cutL p).2.1)).length ≤ _; omega)) ?_
  exact Ev.now _
theorem steps_ok : ∀ (ps : List (List UInt8)) (c : Own.Ctl), (∀ p ∈ ps, p.length ≤ 1000000000) → Ev (fun k => cc_Parse.steps k (ps.map mk) c) (ps.foldl actL c)
  | [], c, _ => Ev.now _
  | p :: t, c, h => Ev.bind (step_ok c p (h p List.mem_cons_self)) (steps_ok t _ (fun q hq => h q (List.mem_cons_of_mem _ hq)))
theorem Parse_ok (v : List ByteArray) (hv : v.length ≤ 400) (hb : ∀ s ∈ v, s.size ≤ 1100000) : Ev (fun k => cc_Parse.f k v) (ctlOf v).tup := by
  have hS : Ev (fun k => head_Split.f k v) ((splits v).map mk) := by
    have := split_loop v (by omega) (fun s hs => by have := hb s hs; omega) v 0 [] rfl (by simp) (by omega)
    rw [List.nil_append] at this
    exact this
  unfold cc_Parse.f
  refine Ev.bind hS (Ev.bind (steps_ok (splits v) _ (fun p hp => by have := splits_small v hb p hp; omega)) ?_)
  exact Ev.now _
theorem ccR_ok (v : List ByteArray) (hv : v.length ≤ 400) (hb : ∀ s ∈ v, s.size ≤ 1100000) : Ev (fun k => ccR k v) (ctlOf v) := by
  have hS : Ev (fun k => head_Split.f k v) ((splits v).map mk) := by
    have := split_loop v (by omega) (fun s hs => by have := hb s hs; omega) v 0 [] rfl (by simp) (by omega)
    rw [List.nil_append] at this
    exact this
  unfold ccR
  refine Ev.bind hS (Ev.bind (steps_ok (splits v) _ (fun p hp => by have := splits_small v hb p hp; omega)) ?_)
  exact Ev.now _
def ccName : ByteArray := ⟨#[67, 97, 99, 104, 101, 45, 67, 111, 110, 116, 114, 111, 108]⟩
def prName : ByteArray := ⟨#[80, 114, 97, 103, 109, 97]⟩
def storedOf (l : List S56) : Own.Ctl := ctlOf (allOf l ccName)
theorem All_cc {l : List S56} (h : LinesOk l) : Ev (fun k => head_All.f k l (⟨#[67, 97, 99, 104, 101, 45, 67, 111, 110, 116, 114, 111, 108]⟩ : ByteArray)) (allOf l ccName) :=
  All_ok (by have := h.len; omega) h.okL (n := ccName) (by show 13 ≤ _; omega)
/-- A byte of a name. -/
def tch (c : UInt8) : Bool := (decide (97 ≤ c.toNat) && decide (c.toNat ≤ 122)) || (decide (65 ≤ c.toNat) && decide (c.toNat ≤ 90)) || (decide (48 ≤ c.toNat) && decide (c.toNat ≤ 57)) || ([33, 35, 36, 37, 38, 39, 42, 43, 45, 46, 94, 95, 96, 124, 126] : List UInt8).contains c
def nameOf (l : List UInt8) : Bool := l.all tch && decide (1 ≤ l.length) && decide (l.length ≤ 100)
theorem idx_contains (l : List UInt8) (c : UInt8) : l.contains c = decide (Lib.indexByte l c ≥ 0) := Lib.contains_iff_indexByte l c
theorem IB_ok (s : ByteArray) (c : UInt8) : strings_IndexByte.f s (c.toNat : Int) = some (Lib.indexByte (B s) c) := by
  unfold strings_IndexByte.f
  congr 2
  show ((c.toNat : Int).toNat).toUInt8 = c
  rw [Int.toNat_natCast]
  simp
theorem Ev.range {α : Type} {lo hi c : Int} {X Y : Nat → Option α} {r : α} (h1 : lo ≤ c ∧ c ≤ hi → Ev X r) (h2 : ¬ (lo ≤ c ∧ c ≤ hi) → Ev Y r) : Ev (fun k => if c ≥ lo then (if c ≤ hi then X k else Y k) else Y k) r := by
  by_cases a : c ≥ lo
  · by_cases b : c ≤ hi
    · exact Ev.pos a (Ev.pos b (h1 ⟨a, b⟩))
    · exact Ev.pos a (Ev.neg b (h2 fun z => b z.2))
  · exact Ev.neg a (h2 fun z => a z.1)
def others : ByteArray := ⟨#[33, 35, 36, 37, 38, 39, 42, 43, 45, 46, 94, 95, 96, 124, 126]⟩
theorem tch_of {c : UInt8} : tch c = ((decide (97 ≤ (c.toNat : Int) ∧ (c.toNat : Int) ≤ 122)) || (decide (65 ≤ (c.toNat : Int) ∧ (c.toNat : Int) ≤ 90)) || (decide (48 ≤ (c.toNat : Int) ∧ (c.toNat : Int) ≤ 57)) || (B others).contains c) := by
  have e : ∀ a b : Nat, (decide (a ≤ c.toNat) && decide (c.toNat ≤ b)) = decide ((a : Int) ≤ (c.toNat : Int) ∧ (c.toNat : Int) ≤ (b : Int)) := by
    intro a b; rw [Bool.eq_iff_iff]; simp
  unfold tch
  rw [e, e, e]; rfl
/-! texts in rising order, each once -/
def ltB (a b : ByteArray) : Prop := B a < B b
theorem lt_irr (a : List UInt8) : ¬ a < a := List.lt_irrefl a
theorem lt_tr {a b c : List UInt8} (h : a < b) (k : b < c) : a < c := List.lt_trans h k
theorem lt_of_not {a b : List UInt8} (h : ¬ a < b) (k : a ≠ b) : b < a := by
  have h1 : b ≤ a := List.not_lt.1 h
  rcases List.le_iff_lt_or_eq.1 h1 with q | q
  · exact q
  · exact absurd q.symm k
theorem less_B (x y : ByteArray) : Op.bytesLess x.toList y.toList = decide (B x < B y) := by rw [toList_B, toList_B]; exact Go.Proofs.bytesLess_eq _ _
theorem strict_ext : ∀ (a b : List ByteArray), a.Pairwise ltB → b.Pairwise ltB → (∀ x, x ∈ a ↔ x ∈ b) → a = b
  | [], [], _, _, _ => rfl
  | [], y :: b, _, _, h => absurd ((h y).2 List.mem_cons_self) (by simp)
  | x :: a, [], _, _, h => absurd ((h x).1 List.mem_cons_self) (by simp)
  | x :: a, y :: b, ha, hb, h => by
    obtain ⟨a1, a2⟩ := List.pairwise_cons.1 ha
    obtain ⟨b1, b2⟩ := List.pairwise_cons.1 hb
    have e : x = y := by
      rcases List.mem_cons.1 ((h x).1 List.mem_cons_self) with q | q
      · exact q
      · rcases List.mem_cons.1 ((h y).2 List.mem_cons_self) with r | r
        · exact r.symm
        · exact absurd (lt_tr (b1 x q) (a1 y r)) (lt_irr _)
    subst e
    rw [strict_ext a b a2 b2 (fun z => ⟨fun hz => ?_, fun hz => ?_⟩)]
    · rcases List.mem_cons.1 ((h z).1 (List.mem_cons_of_mem _ hz)) with q | q
      · subst q; exact absurd (a1 z hz) (lt_irr _)
      · exact q
    · rcases List.mem_cons.1 ((h z).2 (List.mem_cons_of_mem _ hz)) with q | q
      · subst q; exact absurd (b1 z hz) (lt_irr _)
      · exact q
theorem rdOf_get {l : List ByteArray} {j : Nat} (h : j < l.length) : rdOf ByteArray.empty l (j : Int) = l[j] := by
  unfold rdOf
  rw [Int.toNat_natCast, List.getD_eq_getElem?_getD, List.getElem?_eq_getElem h]; rfl
theorem uBack_spec (out : List ByteArray) (x : ByteArray) : ∀ k, k ≤ out.length → (∀ j (h : j < out.length), uBack out x k ≤ j → j < k → ¬ B out[j] < B x) ∧ (∀ (h : 0 < uBack out x k) (h2 : uBack out x k - 1 < out.length), B out[uBack out x k - 1] < B x)
  | 0, _ => ⟨fun j _ _ h => by omega, fun h => by simp [uBack] at h⟩
  | k + 1, hk => by
    have ih := uBack_spec out x k (by omega)
    have hr := rdOf_get (l := out) (j := k) (by omega)
    have hl := less_B (rdOf ByteArray.empty out (k : Int)) x
    rw [hr] at hl
    by_cases h : B out[k] < B x
    · have e : uBack out x (k + 1) = k + 1 := by
        unfold uBack
        rw [if_pos (by rw [hr, hl]; exact decide_eq_true h)]
      rw [e]
      exact ⟨fun j _ h1 h2 => by omega, fun _ _ => h⟩
    · have e : uBack out x (k + 1) = uBack out x k := by
        rw [uBack, if_neg (by rw [hr, hl]; simpa using h)]
      rw [e]
      refine ⟨fun j hj h1 h2 => ?_, ih.2⟩
      by_cases q : j = k
      · subst q; exact h
      · exact ih.1 j hj h1 (by omega)
theorem uStep_spec (out : List ByteArray) (x : ByteArray) (h : out.Pairwise ltB) : (uStep out x).Pairwise ltB ∧ ∀ y, y ∈ uStep out x ↔ y ∈ out ∨ y = x := by
  obtain ⟨s1, s2⟩ := uBack_spec out x out.length (Nat.le_refl _)
  have s0 := uBack_le out x out.length
  unfold uStep
  generalize uBack out x out.length = k at *
  unfold uIns
  by_cases c : k < out.length ∧ (rdOf ByteArray.empty out (k : Int)).toList = x.toList
  · rw [if_pos c]
    refine ⟨h, fun y => ⟨Or.inl, fun q => ?_⟩⟩
    rcases q with q | q
    · exact q
    · obtain ⟨k1, e⟩ := c
      rw [rdOf_get k1, toList_B, toList_B] at e
      rw [q, ← B_inj e]
      exact List.getElem_mem k1
  · rw [if_neg c]
    have lo : ∀ y ∈ out.take k, B y < B x := by
      intro y hy
      obtain ⟨j, hj, rfl⟩ := List.getElem_of_mem hy
      rw [List.length_take] at hj
      rw [List.getElem_take]
      have hx := s2 (by omega) (by omega)
      by_cases e : j = k - 1
      · subst e; exact hx
      · exact lt_tr (List.pairwise_iff_getElem.1 h j (k - 1) (by omega) (by omega) (by omega)) hx
    have hi : ∀ y ∈ out.drop k, B x < B y := by
      intro y hy
      obtain ⟨j, hj, rfl⟩ := List.getElem_of_mem hy
      rw [List.length_drop] at hj
      rw [List.getElem_drop]
      have hx : B x < B out[k] := lt_of_not (s1 k (by omega) (Nat.le_refl _) (by omega)) (fun e => c ⟨by omega, by rw [rdOf_get (by omega), toList_B, toList_B]; exact e⟩)
      by_cases e : j = 0
      · subst e; exact hx
      · exact lt_tr hx (List.pairwise_iff_getElem.1 h k (k + j) (by omega) (by omega) (by omega))
    have hsplit : out.Pairwise ltB := h
    rw [← List.take_append_drop k out] at hsplit
    obtain ⟨p1, p2, p3⟩ := List.pairwise_append.1 hsplit
    refine ⟨List.pairwise_append.2 ⟨p1, List.pairwise_append.2 ⟨List.pairwise_singleton _ _, p2, fun a ha b hb => ?_⟩, fun a ha b hb => ?_⟩, fun y => ?_⟩
    · rw [List.mem_singleton.1 ha]; exact hi b hb
    · rcases List.mem_append.1 hb with q | q
      · rw [List.mem_singleton.1 q]; exact lo a ha
      · exact p3 a ha b q
    · have e : y ∈ out ↔ y ∈ out.take k ∨ y ∈ out.drop k := by rw [← List.mem_append, List.take_append_drop]
      rw [e, List.mem_append, List.mem_append, List.mem_singleton]
      constructor
      · rintro (q | q | q)
        · exact .inl (.inl q)
        · exact .inr q
        · exact .inl (.inr q)
      · rintro ((q | q) | q)
        · exact .inl q
        · exact .inr (.inr q)
        · exact .inr (.inl q)
theorem uniq_from : ∀ (l out : List ByteArray), out.Pairwise ltB → (l.foldl uStep out).Pairwise ltB ∧ ∀ y, y ∈ l.foldl uStep out ↔ y ∈ out ∨ y ∈ l
  | [], out, h => ⟨h, fun y => by simp⟩
  | x :: l, out, h => by
    obtain ⟨s1, s2⟩ := uStep_spec out x h
    obtain ⟨h1, h2⟩ := uniq_from l (uStep out x) s1
    refine ⟨h1, fun y => ?_⟩
    rw [List.foldl_cons, h2 y, s2 y, List.mem_cons, or_assoc]
theorem comp_spec (d : Array (List UInt8)) (hs : ∀ i j, i ≤ j → j < d.size → d[i]! ≤ d[j]!) : ∀ m, m ≤ d.size → (Lib.compactUpTo d m).Pairwise (· < ·) ∧ (∀ x, x ∈ Lib.compactUpTo d m ↔ ∃ j, j < m ∧ d[j]! = x)
  | 0, _ => by simp [Lib.compactUpTo]
  | m + 1, hm => by
    obtain ⟨h1, h2⟩ := comp_spec d hs m (by omega)
    rw [Lib.compactUpTo_succ]
    by_cases hk : Lib.keeps d m = true
    · rw [if_pos hk]
      have hk' : m = 0 ∨ d[m]! ≠ d[m - 1]! := of_decide_eq_true hk
      refine ⟨List.pairwise_append.2 ⟨h1, List.pairwise_singleton _ _, fun a ha b hb => ?_⟩, fun x => ?_⟩
      · rw [List.mem_singleton.1 hb]
        obtain ⟨j, hj, rfl⟩ := (h2 a).1 ha
        have q : d[m]! ≠ d[m - 1]! := by
          rcases hk' with e | e
          · omega
          · exact e
        have le1 := hs j (m - 1) (by omega) (by omega)
        have le2 := hs (m - 1) m (by omega) (by omega)
        have lt2 : d[m - 1]! < d[m]! := by
          rcases List.le_iff_lt_or_eq.1 le2 with e | e
          · exact e
          · exact absurd e.symm q
        rcases List.le_iff_lt_or_eq.1 le1 with e | e
        · exact lt_tr e lt2
        · rw [e]; exact lt2
      · rw [List.mem_append, List.mem_singleton, h2 x]
        constructor
        · rintro (⟨j, hj, e⟩ | e)
          · exact ⟨j, by omega, e⟩
          · exact ⟨m, by omega, e.symm⟩
        · rintro ⟨j, hj, e⟩
          by_cases q : j = m
          · subst q; exact .inr e.symm
          · exact .inl ⟨j, by omega, e⟩
    · rw [if_neg hk, List.append_nil]
      have hk' : ¬ (m = 0 ∨ d[m]! ≠ d[m - 1]!) := fun q => hk (decide_eq_true q)
      refine ⟨h1, fun x => ?_⟩
      rw [h2 x]
      constructor
      · rintro ⟨j, hj, e⟩
        exact ⟨j, by omega, e⟩
      · rintro ⟨j, hj, e⟩
        by_cases q : j = m
        · subst q
          exact ⟨j - 1, by omega, by rw [← e]; exact (Decidable.not_not.1 (fun z => hk' (.inr z))).symm⟩
        · exact ⟨j, by omega, e⟩
theorem comp_sort (l : List ByteArray) : (compB (sortB l)).Pairwise ltB ∧ ∀ y, y ∈ compB (sortB l) ↔ y ∈ l := by
  have hsm : (sortB l).map (fun s => s.data.toList) = (l.map B).mergeSort (fun x y => decide (x ≤ y)) := by
    unfold sortB
    rw [List.map_map]
    conv => rhs; rw [← List.map_id ((l.map B).mergeSort (fun x y => decide (x ≤ y)))]
    rfl
  have hp := List.pairwise_mergeSort (le := fun (x y : List UInt8) => decide (x ≤ y)) (fun a b c h k => decide_eq_true (List.le_trans (of_decide_eq_true h) (of_decide_eq_true k))) (fun a b => by
    rcases List.le_total a b with h | h
    · simp [h]
    · simp [h]) (l.map B)
  have hmem : ∀ x, x ∈ (l.map B).mergeSort (fun x y => decide (x ≤ y)) ↔ x ∈ l.map B := fun x => List.mem_mergeSort
  unfold compB
  rw [hsm]
  generalize (l.map B).mergeSort (fun x y => decide (x ≤ y)) = z at *
  have hs : ∀ i j, i ≤ j → j < z.toArray.size → z.toArray[i]! ≤ z.toArray[j]! := by
    intro i j hij hj
    have hj' : j < z.length := by simpa using hj
    rw [getElem!_pos z.toArray i (by simp; omega), getElem!_pos z.toArray j (by simp; omega)]
    by_cases e : i = j
    · subst e; exact List.le_refl _
    · have := List.pairwise_iff_getElem.1 hp i j (by omega) hj' (by omega)
      simpa using of_decide_eq_true this
  obtain ⟨c1, c2⟩ := comp_spec z.toArray hs z.length (by simp)
  have hc : Lib.compact z = Lib.compactUpTo z.toArray z.length := rfl
  rw [hc]
  refine ⟨List.pairwise_map.2 c1, fun y => ?_⟩
  rw [List.mem_map]
  constructor
  · rintro ⟨b, hb, rfl⟩
    obtain ⟨j, hj, e⟩ := (c2 b).1 hb
    rw [getElem!_pos z.toArray j (by simpa using hj)] at e
    have : b ∈ z := by rw [← e]; simp
    obtain ⟨s, hs, es⟩ := List.mem_map.1 ((hmem b).1 this)
    rw [← es]; exact hs
  · intro hy
    have : B y ∈ z := (hmem _).2 (List.mem_map_of_mem hy)
    obtain ⟨j, hj, e⟩ := List.getElem_of_mem this
    exact ⟨B y, (c2 _).2 ⟨j, hj, by rw [getElem!_pos z.toArray j (by simpa using hj)]; simpa using e⟩, rfl⟩
theorem uniq_eq (l : List ByteArray) : compB (sortB l) = uniqL l := by
  obtain ⟨a1, a2⟩ := comp_sort l
  obtain ⟨b1, b2⟩ := uniq_from l [] List.Pairwise.nil
  refine strict_ext _ _ a1 b1 (fun x => ?_)
  rw [a2 x]
  unfold uniqL
  rw [b2 x]; simp
/-! what an answer hung on -/
def badP (p : List UInt8) : Bool := decide (p = [42]) || !nmL p
  where nmL (p : List UInt8) : Bool := p.all tch && (decide (1 ≤ p.length) && decide (p.length ≤ 100))
def lowP (p : List UInt8) : ByteArray := Own.low (mk p)
def ruleOf (v : List ByteArray) : Bool × List ByteArray := if (splits v).any badP = true ∨ 64 < (splits v).length then (true, []) else (false, uniqL ((splits v).map lowP))
theorem mem_uniq (l : List ByteArray) (x : ByteArray) : x ∈ uniqL l ↔ x ∈ l := by
  have h := (uniq_from l [] List.Pairwise.nil).2 x
  unfold uniqL
  rw [h]; simp
theorem uniqL_len (l : List ByteArray) : (uniqL l).length ≤ l.length := by
  have h : ∀ (l out : List ByteArray), (l.foldl uStep out).length ≤ out.length + l.length := by
    intro l
    induction l with
    | nil => intro out; simp
    | cons x l ih =>
      intro out
      have h1 := ih (uStep out x)
      have h2 : (uStep out x).length ≤ out.length + 1 := uIns_len out x _
      rw [List.foldl_cons, List.length_cons]
      omega
  have := h l []
  simp only [List.length_nil, Nat.zero_add] at this
  exact this
theorem nm_of {p : List UInt8} (h : badP p = false) : 1 ≤ p.length ∧ p.length ≤ 100 := by
  unfold badP badP.nmL at h
  simp only [Bool.or_eq_false_iff, Bool.not_eq_false', Bool.and_eq_true, decide_eq_true_iff] at h
  exact h.2.2
/-- The names of a rule that is read: short, few. -/
theorem rule_facts (v : List ByteArray) : (ruleOf v).2.length ≤ 64 ∧ (∀ n ∈ (ruleOf v).2, 1 ≤ n.size ∧ n.size ≤ 100 ∧ Own.low n = n) ∧ (ruleOf v).2.Pairwise ltB ∧ ((ruleOf v).1 = true → (ruleOf v).2 = []) := by
  unfold ruleOf
  by_cases h : (splits v).any badP = true ∨ 64 < (splits v).length
  · rw [if_pos h]; exact ⟨by simp, by simp, List.Pairwise.nil, fun _ => rfl⟩
  · rw [if_neg h]
    obtain ⟨h1, h2⟩ := not_or.1 h
    have hl := uniqL_len ((splits v).map lowP)
    rw [List.length_map] at hl
    refine ⟨by show (uniqL _).length ≤ 64; omega, fun n hn => ?_, (uniq_from _ [] List.Pairwise.nil).1, fun h => by cases h⟩
    obtain ⟨p, hp, rfl⟩ := List.mem_map.1 ((mem_uniq _ _).1 hn)
    have hb : badP p = false := by
      cases e : badP p with
      | false => rfl
      | true => exact absurd (List.any_eq_true.2 ⟨p, hp, e⟩) h1
    have := nm_of hb
    have hs : (lowP p).size = p.length := by unfold lowP; rw [low_size, size_B, B_mk]
    exact ⟨by omega, by omega, low_low _⟩
def nExp : ByteArray := ⟨#[69, 120, 112, 105, 114, 101, 115]⟩
def nVary : ByteArray := ⟨#[86, 97, 114, 121]⟩
def nAuth : ByteArray := ⟨#[65, 117, 116, 104, 111, 114, 105, 122, 97, 116, 105, 111, 110]⟩
def plainNames : List ByteArray := [⟨#[82, 97, 110, 103, 101]⟩, ⟨#[73, 102, 45, 77, 97, 116, 99, 104]⟩, ⟨#[73, 102, 45, 78, 111, 110, 101, 45, 77, 97, 116, 99, 104]⟩, ⟨#[73, 102, 45, 77, 111, 100, 105, 102, 105, 101, 100, 45, 83, 105, 110, 99, 101]⟩, ⟨#[73, 102, 45, 85, 110, 109, 111, 100, 105, 102, 105, 101, 100, 45, 83, 105, 110, 99, 101]⟩, ⟨#[73, 102, 45, 82, 97, 110, 103, 101]⟩]
theorem plain_sizes : ∀ n ∈ plainNames, 1 ≤ n.size ∧ n.size ≤ 100 := by decide +kernel
/-- A status that is usual. -/
def usualB (n : Int) : Bool := ([200, 203, 204, 300, 301, 308, 404, 405, 410, 414, 501] : List Int).any fun x => decide (n = x)
def hasB (l : List S56) (nm : ByteArray) : Bool := decide (((allOf l nm).length : Int) > 0)
def expB (sh : Bool) (l : List S56) : Bool := (sh && (storedOf l).h1) || ((storedOf l).h0 || hasB l nExp)
def plainB (m : ByteArray) (l : List S56) : Bool := (plainNames.all fun n => !hasB l n) && decide (B m = [71, 69, 84])
def kindB (st : Int) : Bool := decide (st < 200) || (decide (st = 206) || decide (st = 304))
def noB (ql : List S56) (st : Int) (rl : List S56) : Bool := (storedOf ql).b0 || ((storedOf rl).b0 || ((storedOf rl).b7 && !usualB st))
def authB (ql : List S56) (rl : List S56) : Bool := hasB ql nAuth && (!(storedOf rl).b3 && (!(storedOf rl).b4 && !(storedOf rl).h1))
def starB (rl : List S56) : Bool := (ruleOf (allOf rl nVary)).1
def othersI (ql rl : List S56) : Int := if (storedOf rl).b2 = true then 4 else if authB ql rl = true then 5 else 0
def lastI (sh : Bool) (st : Int) (rl : List S56) : Int := if starB rl = true then 6 else if (!expB sh rl && (!(storedOf rl).b3 && !usualB st)) = true then 7 else 0
/-- May an answer be stored, or why not. -/
def storeI (sh : Bool) (m : ByteArray) (ql : List S56) (st : Int) (rl : List S56) : Int :=
  if plainB m ql = false then 1 else
  if kindB st = true then 2 else
  if noB ql st rl = true then 3 else
  if sh = true ∧ othersI ql rl ≠ 0 then othersI ql rl else
  lastI sh st rl
theorem others_cases (ql rl : List S56) : (othersI ql rl = 4 ∧ (storedOf rl).b2 = true) ∨ (othersI ql rl = 5 ∧ (storedOf rl).b2 = false) ∨ (othersI ql rl = 0 ∧ (storedOf rl).b2 = false) := by
  unfold othersI
  cases (storedOf rl).b2
  · cases authB ql rl <;> simp
  · simp
theorem last_cases (sh : Bool) (st : Int) (rl : List S56) : (lastI sh st rl = 6 ∧ starB rl = true) ∨ (lastI sh st rl = 7 ∧ starB rl = false ∧ expB sh rl = false ∧ (storedOf rl).b3 = false ∧ usualB st = false) ∨ (lastI sh st rl = 0 ∧ starB rl = false ∧ (expB sh rl = true ∨ (storedOf rl).b3 = true ∨ usualB st = true)) := by
  unfold lastI
  cases starB rl
  · cases expB sh rl <;> cases (storedOf rl).b3 <;> cases usualB st <;> simp
  · simp
theorem store_rng (sh : Bool) (m : ByteArray) (ql : List S56) (st : Int) (rl : List S56) : 0 ≤ storeI sh m ql st rl ∧ storeI sh m ql st rl ≤ 7 := by
  unfold storeI
  rcases others_cases ql rl with h | h | h <;> rcases last_cases sh st rl with g | g | g <;> rw [h.1, g.1] <;> (repeat' split) <;> omega
theorem store_zero {sh : Bool} {m : ByteArray} {ql : List S56} {st : Int} {rl : List S56} (h : storeI sh m ql st rl = 0) : plainB m ql = true ∧ kindB st = false ∧ noB ql st rl = false ∧ (sh = true → othersI ql rl = 0) ∧ lastI sh st rl = 0 := by
  unfold storeI at h
  by_cases c1 : plainB m ql = false
  · rw [if_pos c1] at h; cases h
  rw [if_neg c1] at h
  by_cases c2 : kindB st = true
  · rw [if_pos c2] at h; cases h
  rw [if_neg c2] at h
  by_cases c3 : noB ql st rl = true
  · rw [if_pos c3] at h; cases h
  rw [if_neg c3] at h
  by_cases c4 : sh = true ∧ othersI ql rl ≠ 0
  · rw [if_pos c4] at h; exact absurd h c4.2
  rw [if_neg c4] at h
  refine ⟨by simpa using c1, by simpa using c2, by simpa using c3, fun q => ?_, h⟩
  by_cases z : othersI ql rl = 0
  · exact z
  · exact absurd ⟨q, z⟩ c4
theorem store_of {sh : Bool} {m : ByteArray} {ql : List S56} {st : Int} {rl : List S56} (h1 : plainB m ql = true) (h2 : kindB st = false) (h3 : noB ql st rl = false) (h4 : sh = true → othersI ql rl = 0) : storeI sh m ql st rl = lastI sh st rl := by
  unfold storeI
  rw [if_neg (by rw [h1]; simp), if_neg (by rw [h2]; simp), if_neg (by rw [h3]; simp), if_neg (fun q => q.2 (h4 q.1))]
/-- What a shared one may store a private one may, too. -/
theorem store_shared {m : ByteArray} {ql : List S56} {st : Int} {rl : List S56} (h : storeI true m ql st rl = 0) (c : usualB st = true ∨ (storedOf rl).h1 = false) : storeI false m ql st rl = 0 := by
  obtain ⟨h1, h2, h3, h4, h5⟩ := store_zero h
  rw [store_of h1 h2 h3 (fun q => by cases q)]
  rcases last_cases true st rl with g | g | g
  · rw [g.1] at h5; cases h5
  · rw [g.1] at h5; cases h5
  obtain ⟨_, g1, g2⟩ := g
  rcases last_cases false st rl with k | k | k
  · rw [g1] at k; cases k.2
  · exfalso
    obtain ⟨_, _, k1, k2, k3⟩ := k
    rcases g2 with g2 | g2 | g2
    · rcases c with c | c
      · rw [k3] at c; cases c
      · unfold expB at g2 k1
        rw [c] at g2
        simp only [Bool.and_false, Bool.false_or, Bool.false_and] at g2 k1
        rw [g2] at k1; cases k1
    · rw [k2] at g2; cases g2
    · rw [k3] at g2; cases g2
  · exact k.1
theorem no_store {ql : List S56} {st : Int} {rl : List S56} (h : noB ql st rl = false) : (storedOf ql).b0 = false ∧ (storedOf rl).b0 = false := by
  unfold noB at h
  simp only [Bool.or_eq_false_iff] at h
  exact ⟨h.1, h.2.1⟩
theorem kind_no {st : Int} (h : kindB st = false) : ¬ st < 200 ∧ st ≠ 206 ∧ st ≠ 304 := by
  unfold kindB at h
  simp only [Bool.or_eq_false_iff, decide_eq_false_iff_not] at h
  exact ⟨h.1, h.2.1, h.2.2⟩
theorem plain_get {m : ByteArray} {l : List S56} (h : plainB m l = true) : B m = [71, 69, 84] := by
  unfold plainB at h
  simp only [Bool.and_eq_true, decide_eq_true_eq] at h
  exact h.2
theorem all_more (l : List S56) (f c n : ByteArray) (hf : Own.same f n = true) : allOf (l ++ [(⟨f, c⟩ : S56)]) n = allOf l n ++ [c] := by
  unfold allOf
  rw [List.filter_append, List.map_append]
  congr 1
  rw [List.filter_cons, if_pos hf]; rfl
theorem ctl_store (v : List ByteArray) : (ctlOf (v ++ [(⟨#[110, 111, 45, 115, 116, 111, 114, 101]⟩ : ByteArray)])).b0 = true := by
  rw [ctl_turn]
  exact (ctl_more [(⟨#[110, 111, 45, 115, 116, 111, 114, 101]⟩ : ByteArray)] v).b0 (by decide +kernel)
theorem ctl_private (v : List ByteArray) : (ctlOf (v ++ [(⟨#[112, 114, 105, 118, 97, 116, 101]⟩ : ByteArray)])).b2 = true := by
  rw [ctl_turn]
  exact (ctl_more [(⟨#[112, 114, 105, 118, 97, 116, 101]⟩ : ByteArray)] v).b2 (by decide +kernel)
theorem line_store (sh : Bool) (m : ByteArray) (ql : List S56) (st : Int) (rl : List S56) (f : ByteArray) (hf : Own.same f ccName = true) : storeI sh m ql st (rl ++ [(⟨f, (⟨#[110, 111, 45, 115, 116, 111, 114, 101]⟩ : ByteArray)⟩ : S56)]) ≠ 0 := by
  intro h
  obtain ⟨_, _, h3, _⟩ := store_zero h
  have := (no_store h3).2
  unfold storedOf at this
  rw [all_more _ _ _ _ hf, ctl_store] at this
  cases this
theorem line_private (m : ByteArray) (ql : List S56) (st : Int) (rl : List S56) (f : ByteArray) (hf : Own.same f ccName = true) : storeI true m ql st (rl ++ [(⟨f, (⟨#[112, 114, 105, 118, 97, 116, 101]⟩ : ByteArray)⟩ : S56)]) ≠ 0 := by
  intro h
  obtain ⟨_, _, _, h4, _⟩ := store_zero h
  have h4 := h4 rfl
  rcases others_cases ql (rl ++ [(⟨f, (⟨#[112, 114, 105, 118, 97, 116, 101]⟩ : ByteArray)⟩ : S56)]) with g | g | g
  · rw [g.1] at h4; cases h4
  · rw [g.1] at h4; cases h4
  · have := g.2
    unfold storedOf at this
    rw [all_more _ _ _ _ hf, ctl_private] at this
    cases this
theorem plain_range (m : ByteArray) (l : List S56) (c : ByteArray) : plainB m (l ++ [(⟨(⟨#[82, 97, 110, 103, 101]⟩ : ByteArray), c⟩ : S56)]) = false := by
  have s : Own.same (⟨#[82, 97, 110, 103, 101]⟩ : ByteArray) (⟨#[82, 97, 110, 103, 101]⟩ : ByteArray) = true := by decide +kernel
  have e : hasB (l ++ [(⟨(⟨#[82, 97, 110, 103, 101]⟩ : ByteArray), c⟩ : S56)]) (⟨#[82, 97, 110, 103, 101]⟩ : ByteArray) = true := by
    unfold hasB
    rw [all_more _ _ _ _ s]
    simp
  unfold plainB plainNames
  rw [List.all_cons, e]
  rfl
theorem store_range (sh : Bool) (m : ByteArray) (l : List S56) (c : ByteArray) (st : Int) (rl : List S56) : storeI sh m (l ++ [(⟨(⟨#[82, 97, 110, 103, 101]⟩ : ByteArray), c⟩ : S56)]) st rl = 1 := by
  unfold storeI
  rw [if_pos (plain_range m l c)]
theorem Name_loop (s : ByteArray) (hs : s.size ≤ 9223372036854775807) : ∀ (t : List UInt8) (i : Nat), (B s).drop i = t → Ev (fun k => head_Name.l0 k s (s.size : Int) (i : Int)) (t.all tch && (decide (1 ≤ s.size) && decide (s.size ≤ 100)))
  | [], i, ht => by
    have := end_drop ht
    refine Ev.step (fun _ => head_Name.l0.eq_2 ..) (Ev.neg (by omega) ?_)
    rw [toList_B, List.all_nil, Bool.true_and]
    by_cases h : B s = []
    · have h0 : s.size = 0 := by rw [size_B, h]; rfl
      refine Ev.pos h ?_
      rw [h0]; exact Ev.now _
    · have h0 : 1 ≤ s.size := by rw [size_B]; exact List.length_pos_iff.2 h
      refine Ev.neg h ?_
      rw [decide_eq_true h0, Bool.true_and]
      refine Ev.konst ?_
      congr 1
      rw [Bool.eq_iff_iff]; simp; omega
  | c :: t, i, ht => by
    obtain ⟨a1, a2, a3⟩ := bt_drop ht
    have ih := Name_loop s hs t (i + 1) a3
    refine Ev.step (fun _ => head_Name.l0.eq_2 ..) (Ev.pos (by omega) (Ev.pos (by omega) (Ev.pos (by omega) ?_)))
    rw [a1, wrap_id (by omega) (by omega), cast_succ]
    have yes : tch c = true → Ev (fun k => head_Name.l0 k s (s.size : Int) ((i + 1 : Nat) : Int)) ((c :: t).all tch && (decide (1 ≤ s.size) && decide (s.size ≤ 100))) := fun h => by
      rw [List.all_cons, h, Bool.true_and]; exact ih
    have T := @tch_of c
    refine Ev.range (fun h => yes (by rw [T, decide_eq_true h]; simp)) (fun n1 => Ev.range (fun h => yes (by rw [T, decide_eq_true h]; simp)) (fun n2 => Ev.range (fun h => yes (by rw [T, decide_eq_true h]; simp)) (fun n3 => Ev.bnd (IB_ok others c) ?_)))
    have T2 : tch c = decide (Lib.indexByte (B others) c ≥ 0) := by
      rw [T, decide_eq_false n1, decide_eq_false n2, decide_eq_false n3, idx_contains]; simp
    by_cases hx : Lib.indexByte (B others) c ≥ 0
    · exact Ev.pos hx (yes (by rw [T2, decide_eq_true hx]))
    · refine Ev.neg hx ?_
      rw [List.all_cons, T2, decide_eq_false hx]; exact Ev.now _
def nm (s : ByteArray) : Bool := (B s).all tch && (decide (1 ≤ s.size) && decide (s.size ≤ 100))
theorem Name_ok (s : ByteArray) (hs : s.size ≤ 9223372036854775807) : Ev (fun k => head_Name.f k s) (nm s) := Name_loop s hs (B s) 0 rfl
theorem Split17 (v : List ByteArray) (hv : v.length ≤ 400) (hb : ∀ s ∈ v, s.size ≤ 1100000) : Ev (fun k => head_Split.f k v) ((splits v).map mk) := by
  have := split_loop v (by omega) (fun s hs => by have := hb s hs; omega) v 0 [] rfl (by simp) (by omega)
  rw [List.nil_append] at this
  exact this
theorem splits_count (v : List ByteArray) (hv : v.length ≤ 400) (hb : ∀ s ∈ v, s.size ≤ 1100000) : (splits v).length ≤ 500000000 := by
  have h1 := splits_few v
  have h2 : ∀ l : List ByteArray, (∀ s ∈ l, s.size ≤ 1100000) → (l.map fun y => (y.size + 1)).sum ≤ l.length * 1100001 := by
    intro l
    induction l with
    | nil => intro _; simp
    | cons x l ih =>
      intro h
      have := ih (fun s hs => h s (List.mem_cons_of_mem _ hs))
      have := h x (by simp)
      simp only [List.map_cons, List.sum_cons, List.length_cons, Nat.succ_mul]
      omega
  have h3 := h2 v hb
  omega
theorem VParse_loop (L : List (List UInt8)) (hL : L.length ≤ 500000000) (hb : ∀ p ∈ L, p.length ≤ 1100000) : ∀ (t : List (List UInt8)) (i : Nat) (acc : List ByteArray), L.drop i = t → acc.length ≤ i → i ≤ L.length → Ev (fun k => vary_Parse.l0 k (L.map mk) (L.map mk) ((L.map mk).length : Int) (i : Int) false acc) (if t.any badP = true ∨ 64 < L.length then (true, []) else (false, uniqL (acc ++ t.map lowP)))
  | [], i, acc, h, ha, hi => by
    have := drop_nil h
    refine Ev.step (fun _ => vary_Parse.l0.eq_2 ..) (Ev.neg (by rw [List.length_map]; omega) ?_)
    by_cases h64 : 64 < L.length
    · rw [if_pos (Or.inr h64)]
      exact Ev.pos (by rw [List.length_map]; omega) (Ev.now _)
    · rw [if_neg (show ¬ (([] : List (List UInt8)).any badP = true ∨ 64 < L.length) by simpa using h64)]
      refine Ev.neg (by rw [List.length_map]; omega) (Ev.bnd (a := ()) (by unfold slices_SortS.f; rw [if_pos (by omega)]) (Ev.bnd (a := uniqL acc) (by unfold slices_CompactS.f; rw [uniq_eq]) (Ev.tell ?_)))
      rw [List.map_nil, List.append_nil]
  | p :: t, i, acc, h, ha, hi => by
    obtain ⟨a1, a2, a3⟩ := drop_cons h
    have hp := hb p (List.mem_of_getElem? a2)
    have hr : rdOf ByteArray.empty (L.map mk) (i : Int) = mk p := rdOf_of (by rw [List.getElem?_map, a2]; rfl)
    have hs : (mk p).size = p.length := by rw [size_B, B_mk]
    refine Ev.step (fun _ => vary_Parse.l0.eq_2 ..) (Ev.pos (by rw [List.length_map]; omega) (Ev.pos (by omega) (Ev.pos (by rw [List.length_map]; omega) ?_)))
    rw [hr, wrap_id (x := (i : Int) + 1) (by omega) (by omega), cast_succ, toList_B, B_mk]
    have hn := Name_ok (mk p) (by omega)
    have en : nm (mk p) = badP.nmL p := by unfold nm badP.nmL; rw [hs, B_mk]
    rw [en] at hn
    by_cases h42 : p = [42]
    · have e : (p :: t).any badP = true := by rw [List.any_cons]; unfold badP; rw [decide_eq_true h42]; rfl
      rw [if_pos (Or.inl e)]
      exact Ev.pos h42 (Ev.now _)
    · refine Ev.neg h42 (Ev.bind hn ?_)
      cases hnm : badP.nmL p with
      | false =>
        have e : (p :: t).any badP = true := by rw [List.any_cons]; unfold badP; rw [hnm, decide_eq_false h42]; rfl
        rw [if_pos (Or.inl e)]
        exact Ev.neg (by simp) (Ev.now _)
      | true =>
        have e : (p :: t).any badP = t.any badP := by rw [List.any_cons]; unfold badP; rw [hnm, decide_eq_false h42]; rfl
        have ih := VParse_loop L hL hb t (i + 1) (acc ++ [lowP p]) a3 (by simp; omega) (by omega)
        rw [List.append_assoc] at ih
        rw [e]
        exact Ev.pos rfl (Ev.bnd (Lower_ok (by omega)) (Ev.pos (by omega) ih))
theorem VParse_ok (v : List ByteArray) (hv : v.length ≤ 400) (hb : ∀ s ∈ v, s.size ≤ 1100000) : Ev (fun k => vary_Parse.f k v) (ruleOf v) := by
  unfold vary_Parse.f
  exact Ev.bind (Split17 v hv hb) (VParse_loop (splits v) (splits_count v hv hb) (splits_small v hb) (splits v) 0 [] rfl (by simp) (by omega))
theorem ctlM_ok {l : List S56} (h : LinesOk l) : Ev (fun k => may_control.f k l) (storedOf l).tup := by
  obtain ⟨h1, h2⟩ := h.all ccName (by show 1 ≤ 13; omega)
  have hR : Ev (fun k => may_control.R k l) (storedOf l) := by
    unfold may_control.R
    exact Ev.bind (All_cc h) (ccR_ok _ h1 h2)
  exact Ev.bind hR (Ev.now _)
theorem ctlA_ok {l : List S56} (h : LinesOk l) : Ev (fun k => age_control.f k l) (storedOf l).tup := by
  obtain ⟨h1, h2⟩ := h.all ccName (by show 1 ≤ 13; omega)
  have hR : Ev (fun k => age_control.R k l) (storedOf l) := by
    unfold age_control.R
    exact Ev.bind (All_cc h) (ccR_ok _ h1 h2)
  exact Ev.bind hR (Ev.now _)
theorem usual_ok (n : Int) : age_Usual.f n = some (usualB n) := by
  unfold age_Usual.f usualB
  (repeat' split) <;> simp_all
theorem AllM {l : List S56} (h : LinesOk l) (n : ByteArray) (hn : n.size ≤ 100) : Ev (fun k => head_All.f k l n) (allOf l n) := All_ok (by have := h.len; omega) h.okL (by omega)
theorem Explicit_ok (sh : Bool) {l : List S56} (h : LinesOk l) : Ev (fun k => age_Explicit.f k sh l) (expB sh l) := by
  have ha := AllM h nExp (by decide)
  unfold age_Explicit.f expB
  refine Ev.bind (ctlA_ok h) ?_
  cases sh
  · refine Ev.neg (by simp) ?_
    cases e : (storedOf l).h0
    · exact Ev.neg (by show ¬ (storedOf l).h0 = true; rw [e]; simp) (Ev.bind ha (Ev.tell (by simp [hasB])))
    · exact Ev.pos e (Ev.tell (by simp))
  · refine Ev.pos rfl ?_
    cases e1 : (storedOf l).h1
    · refine Ev.neg (by show ¬ (storedOf l).h1 = true; rw [e1]; simp) ?_
      cases e : (storedOf l).h0
      · exact Ev.neg (by show ¬ (storedOf l).h0 = true; rw [e]; simp) (Ev.bind ha (Ev.tell (by simp [hasB])))
      · exact Ev.pos e (Ev.tell (by simp))
    · exact Ev.pos e1 (Ev.tell (by simp))
theorem Plain_loop (a m c : ByteArray) {l : List S56} (h : LinesOk l) (L : List ByteArray) (hL : ∀ n ∈ L, n.size ≤ 100) (hl : L.length ≤ 100) : ∀ (t : List ByteArray) (i : Nat), L.drop i = t → Ev (fun k => may_Plain.l0 k L (L.length : Int) (i : Int) a m c l) ((t.all fun n => !hasB l n) && decide (B m = [71, 69, 84]))
  | [], i, ht => by
    have := drop_nil ht
    refine Ev.step (fun _ => may_Plain.l0.eq_2 ..) (Ev.neg (by omega) (Ev.tell ?_))
    rw [toList_B, List.all_nil, Bool.true_and, Bool.eq_iff_iff]; simp
  | n :: t, i, ht => by
    obtain ⟨a1, a2, a3⟩ := drop_cons ht
    have hn := hL n (List.mem_of_getElem? a2)
    refine Ev.step (fun _ => may_Plain.l0.eq_2 ..) (Ev.pos (by omega) (Ev.pos (by omega) (Ev.pos (by omega) ?_)))
    rw [rdOf_of a2, wrap_id (x := (i : Int) + 1) (by omega) (by omega), cast_succ]
    refine Ev.bind (AllM h n hn) ?_
    rw [List.all_cons]
    by_cases g : ((allOf l n).length : Int) > 0
    · have e : hasB l n = true := decide_eq_true g
      rw [e]
      exact Ev.pos g (Ev.tell (by simp))
    · have e : hasB l n = false := decide_eq_false g
      rw [e, Bool.not_false, Bool.true_and]
      exact Ev.neg g (Plain_loop a m c h L hL hl t (i + 1) a3)
theorem PlainM_ok (a m c : ByteArray) {l : List S56} (h : LinesOk l) : Ev (fun k => may_Plain.f k a m c l) (plainB m l) :=
  Plain_loop a m c h plainNames (fun n hn => (plain_sizes n hn).2) (by decide) plainNames 0 rfl
theorem others_ok (a m c : ByteArray) {ql rl : List S56} (h : LinesOk ql) : Ev (fun k => may_others.f k a m c ql (storedOf rl).b0 (storedOf rl).b1 (storedOf rl).b2 (storedOf rl).b3 (storedOf rl).b4 (storedOf rl).b5 (storedOf rl).b6 (storedOf rl).b7 (storedOf rl).b8 (storedOf rl).b9 (storedOf rl).b10 (storedOf rl).h0 (storedOf rl).n0 (storedOf rl).h1 (storedOf rl).n1 (storedOf rl).h2 (storedOf rl).n2 (storedOf rl).h3 (storedOf rl).n3 (storedOf rl).h4 (storedOf rl).n4) (othersI ql rl) := by
  have ha := AllM h nAuth (by decide)
  unfold may_others.f othersI authB
  cases e2 : (storedOf rl).b2
  · refine Ev.neg (by simp) (Ev.bind ha ?_)
    by_cases g : ((allOf ql nAuth).length : Int) > 0
    · have e : hasB ql nAuth = true := decide_eq_true g
      rw [e]
      refine Ev.pos g ?_
      cases e3 : (storedOf rl).b3
      · refine Ev.neg (by simp) ?_
        cases e4 : (storedOf rl).b4
        · refine Ev.neg (by simp) ?_
          cases e5 : (storedOf rl).h1
          · exact Ev.neg (by simp) (Ev.tell (by simp))
          · exact Ev.pos rfl (Ev.tell (by simp))
        · exact Ev.pos rfl (Ev.tell (by simp))
      · exact Ev.pos rfl (Ev.tell (by simp))
    · have e : hasB ql nAuth = false := decide_eq_false g
      rw [e]
      exact Ev.neg g (Ev.tell (by simp))
  · exact Ev.pos rfl (Ev.tell (by simp))
theorem star_ok {rl : List S56} (h : LinesOk rl) : Ev (fun k => vary_Parse.f k (allOf rl nVary)) (ruleOf (allOf rl nVary)) := by
  obtain ⟨h1, h2⟩ := h.all nVary (by decide)
  exact VParse_ok _ h1 h2
theorem last_ok (sh : Bool) (st : Int) {rl : List S56} (body : List Int) (h : LinesOk rl) : Ev (fun k => may_Store.j2 k sh st rl body (storedOf rl).b0 (storedOf rl).b1 (storedOf rl).b2 (storedOf rl).b3 (storedOf rl).b4 (storedOf rl).b5 (storedOf rl).b6 (storedOf rl).b7 (storedOf rl).b8 (storedOf rl).b9 (storedOf rl).b10 (storedOf rl).h0 (storedOf rl).n0 (storedOf rl).h1 (storedOf rl).n1 (storedOf rl).h2 (storedOf rl).n2 (storedOf rl).h3 (storedOf rl).n3 (storedOf rl).h4 (storedOf rl).n4) (lastI sh st rl) := by
  unfold lastI
  refine Ev.step (fun _ => may_Store.j2.eq_2 ..) (Ev.bind (AllM h nVary (by decide)) (Ev.bind (star_ok h) ?_))
  cases e : starB rl
  · refine Ev.neg (by show ¬ starB rl = true; rw [e]; simp) (Ev.bind (Explicit_ok sh h) ?_)
    cases e1 : expB sh rl
    · refine Ev.neg (by simp) ?_
      cases e3 : (storedOf rl).b3
      · refine Ev.neg (by simp) (Ev.bnd (usual_ok st) ?_)
        cases e4 : usualB st
        · exact Ev.neg (by simp) (Ev.tell (by simp))
        · exact Ev.pos rfl (Ev.tell (by simp))
      · exact Ev.pos rfl (Ev.tell (by simp))
    · exact Ev.pos rfl (Ev.tell (by simp))
  · exact Ev.pos e (Ev.tell (by simp))
theorem rest_ok (sh : Bool) (a m c : ByteArray) (st : Int) {ql rl : List S56} (body : List Int) (hq : LinesOk ql) (h : LinesOk rl) : Ev (fun k => may_Store.j1 k sh a m c ql st rl body (storedOf rl).b0 (storedOf rl).b1 (storedOf rl).b2 (storedOf rl).b3 (storedOf rl).b4 (storedOf rl).b5 (storedOf rl).b6 (storedOf rl).b7 (storedOf rl).b8 (storedOf rl).b9 (storedOf rl).b10 (storedOf rl).h0 (storedOf rl).n0 (storedOf rl).h1 (storedOf rl).n1 (storedOf rl).h2 (storedOf rl).n2 (storedOf rl).h3 (storedOf rl).n3 (storedOf rl).h4 (storedOf rl).n4) (if sh = true ∧ othersI ql rl ≠ 0 then othersI ql rl else lastI sh st rl) := by
  have hl := last_ok sh st body h
  cases sh
  · rw [if_neg (fun q => by cases q.1)]
    exact Ev.step (fun _ => may_Store.j1.eq_2 ..) (Ev.neg (by simp) hl)
  · refine Ev.step (fun _ => may_Store.j1.eq_2 ..) (Ev.pos rfl (Ev.bind (others_ok a m c hq) ?_))
    by_cases g : othersI ql rl = 0
    · rw [if_neg (fun q => q.2 g)]; exact Ev.pos g hl
    · rw [if_pos ⟨rfl, g⟩]; exact Ev.neg g (Ev.now _)
theorem Store_ok (sh : Bool) (a m c : ByteArray) (st : Int) {ql rl : List S56} (body : List Int) (hq : LinesOk ql) (h : LinesOk rl) : Ev (fun k => may_Store.f k sh a m c ql st rl body) (storeI sh m ql st rl) := by
  have hr := rest_ok sh a m c st body hq h
  have j : ∀ b : Bool, Ev (fun k => may_Store.j0 k sh b a m c ql st rl body (storedOf rl).b0 (storedOf rl).b1 (storedOf rl).b2 (storedOf rl).b3 (storedOf rl).b4 (storedOf rl).b5 (storedOf rl).b6 (storedOf rl).b7 (storedOf rl).b8 (storedOf rl).b9 (storedOf rl).b10 (storedOf rl).h0 (storedOf rl).n0 (storedOf rl).h1 (storedOf rl).n1 (storedOf rl).h2 (storedOf rl).n2 (storedOf rl).h3 (storedOf rl).n3 (storedOf rl).h4 (storedOf rl).n4) (if b = true then 2 else if noB ql st rl = true then 3 else if sh = true ∧ othersI ql rl ≠ 0 then othersI ql rl else lastI sh st rl) := by
    intro b
    cases b
    · refine Ev.step (fun _ => may_Store.j0.eq_2 ..) (Ev.neg (by simp) (Ev.bind (ctlM_ok hq) ?_))
      rw [if_neg (by simp)]
      unfold noB
      cases e0 : (storedOf ql).b0
      · refine Ev.neg (by show ¬ (storedOf ql).b0 = true; rw [e0]; simp) ?_
        cases e1 : (storedOf rl).b0
        · refine Ev.neg (by simp) ?_
          cases e7 : (storedOf rl).b7
          · rw [e1, e7] at hr
            exact Ev.neg (by simp) (by rw [if_neg (by simp)]; exact hr)
          · refine Ev.pos rfl (Ev.bnd (usual_ok st) ?_)
            cases eu : usualB st
            · exact Ev.neg (by simp) (Ev.tell (by simp))
            · rw [e1, e7] at hr
              exact Ev.pos rfl (by rw [if_neg (by simp)]; exact hr)
        · exact Ev.pos rfl (Ev.tell (by simp))
      · exact Ev.pos e0 (Ev.tell (by simp))
    · exact Ev.step (fun _ => may_Store.j0.eq_2 ..) (Ev.pos rfl (Ev.now _))
  unfold may_Store.f storeI
  refine Ev.bind (ctlM_ok h) (Ev.bind (PlainM_ok a m c hq) ?_)
  cases ep : plainB m ql
  · exact Ev.neg (by simp) (Ev.tell (by simp))
  · refine Ev.pos rfl ?_
    rw [if_neg (by simp)]
    unfold kindB
    by_cases g1 : st < 200
    · have := j true
      rw [if_pos rfl] at this
      rw [decide_eq_true g1, Bool.true_or, if_pos rfl]
      exact Ev.pos g1 this
    · rw [decide_eq_false g1, Bool.false_or]
      refine Ev.neg g1 ?_
      by_cases g2 : st = 206
      · have := j true
        rw [if_pos rfl] at this
        rw [decide_eq_true g2, Bool.true_or, if_pos rfl]
        exact Ev.pos g2 this
      · rw [decide_eq_false g2, Bool.false_or]
        have := j (st == 304)
        have e : (st == 304) = decide (st = 304) := by rw [Bool.eq_iff_iff]; simp
        rw [e] at this
        refine Ev.neg g2 ?_
        rw [e]
        exact this
theorem first20_ok : Ev (fun k => sprlaw20_first.f k) true := Ev.of (fun k => sprlaw20_first.mono k) (k := 60) (by kernel_rfl)
theorem no_lines : LinesOk [] := ⟨by simp, by intro x hx; simp at hx, by intro x hx; simp at hx⟩
theorem Few_ok (l : List S56) : ∃ b, Ev (fun k => sprlaw13_Few.f k l) b ∧ (b = true → l.length ≤ 80 ∧ ∀ x ∈ l, 1 ≤ x.f0.size → x.f1.size ≤ 20000) := by
  obtain ⟨b, hb, h⟩ := Few_loop l l 0 0 rfl (by omega) (by omega) (by omega)
  exact ⟨b, hb, fun e => ⟨(h e).1, (h e).2.2⟩⟩
where
  Few_loop (l : List S56) : ∀ (t : List S56) (i : Nat) (n : Int), l.drop i = t → 0 ≤ n → n ≤ 80000 → i ≤ 80 → ∃ b, Ev (fun k => sprlaw13_Few.l0 k l n (i : Int)) b ∧ (b = true → l.length ≤ 80 ∧ n ≤ 20000 ∧ ∀ x ∈ t, 1 ≤ x.f0.size → x.f1.size ≤ 20000)
  | [], i, n, h, h0, h1, hi => by
    have := drop_nil h
    by_cases hl : l.length ≤ 80
    · refine ⟨_, Ev.step (fun _ => sprlaw13_Few.l0.eq_2 ..) (Ev.neg (by omega) (Ev.pos (by omega) (Ev.now _))), fun hb => ⟨hl, ?_, by simp⟩⟩
      exact of_decide_eq_true hb
    · exact ⟨false, Ev.step (fun _ => sprlaw13_Few.l0.eq_2 ..) (Ev.neg (by omega) (Ev.neg (by omega) (Ev.now _))), fun h => by cases h⟩
  | x :: t, i, n, h, h0, h1, hi => by
    obtain ⟨a1, a2, a3⟩ := drop_cons h
    have hx : rd_T56 l (i : Int) = x := by
      unfold rd_T56; rw [Int.toNat_natCast, List.getD_eq_getElem?_getD, a2]; rfl
    by_cases h80 : i < 80
    · have q1 : 0 ≤ mn ((rd_T56 l (i : Int)).f0.size : Int) 20000 ∧ mn ((rd_T56 l (i : Int)).f0.size : Int) 20000 ≤ 20000 ∧ (1 ≤ (rd_T56 l (i : Int)).f0.size → 1 ≤ mn ((rd_T56 l (i : Int)).f0.size : Int) 20000) := by
        unfold mn; split <;> omega
      have q2 : 0 ≤ mn ((rd_T56 l (i : Int)).f1.size : Int) 20000 ∧ mn ((rd_T56 l (i : Int)).f1.size : Int) 20000 ≤ 20000 ∧ (mn ((rd_T56 l (i : Int)).f1.size : Int) 20000 ≤ 19999 → (rd_T56 l (i : Int)).f1.size ≤ 20000) := by
        unfold mn; split <;> omega
      have q3 : ∀ z : Int, 0 ≤ z → 0 ≤ mn z 80000 ∧ mn z 80000 ≤ 80000 ∧ (mn z 80000 ≤ 20000 → z ≤ 20000) := by intro z _; unfold mn; split <;> omega
      rw [hx] at q1 q2
      generalize hv1 : mn (x.f0.size : Int) 20000 = v1 at q1
      generalize hv2 : mn (x.f1.size : Int) 20000 = v2 at q2
      obtain ⟨z0, z1, z2⟩ := q3 (n + v1 + v2) (by omega)
      obtain ⟨b, hb, hf⟩ := Few_loop l t (i + 1) (mn (n + v1 + v2) 80000) a3 z0 z1 (by omega)
      refine ⟨b, Ev.step (fun _ => sprlaw13_Few.l0.eq_2 ..) (Ev.pos (by omega) (Ev.pos (by omega) (Ev.pos (by omega) ?_))), fun e => ?_⟩
      · rw [wrap_id (x := (i : Int) + 1) (by omega) (by omega), cast_succ, hx, hv1, hv2, wrap_id (x := n + v1) (by omega) (by omega), wrap_id (x := n + v1 + v2) (by omega) (by omega)]
        exact hb
      · obtain ⟨e1, e2, e3⟩ := hf e
        have e2 := z2 e2
        refine ⟨e1, by omega, fun y hy => ?_⟩
        rcases List.mem_cons.1 hy with rfl | hy
        · intro h1; exact q2.2.2 (by have := q1.2.2 h1; omega)
        · exact e3 y hy
    · refine ⟨false, Ev.step (fun _ => sprlaw13_Few.l0.eq_2 ..) (Ev.pos (by omega) (Ev.neg (by omega) (Ev.neg (by omega) (Ev.now _)))), fun h => by cases h⟩
theorem FewReq_ok (a m c : ByteArray) (l : List S56) : ∃ b, Ev (fun k => sprlaw20_FewReq.f k a m c l) b ∧ (b = true → m.size ≤ 400 ∧ l.length ≤ 80 ∧ ∀ x ∈ l, 1 ≤ x.f0.size → x.f1.size ≤ 20000) := by
  unfold sprlaw20_FewReq.f
  by_cases h1 : (a.size : Int) ≤ 5000
  · by_cases h2 : (m.size : Int) ≤ 400
    · by_cases h3 : (c.size : Int) ≤ 5000
      · obtain ⟨b, hb, hf⟩ := Few_ok l
        exact ⟨b, Ev.pos h1 (Ev.pos h2 (Ev.pos h3 (Ev.bind hb (Ev.now _)))), fun e => ⟨by omega, hf e⟩⟩
      · exact ⟨false, Ev.pos h1 (Ev.pos h2 (Ev.neg h3 (Ev.now _))), fun e => by cases e⟩
    · exact ⟨false, Ev.pos h1 (Ev.neg h2 (Ev.now _)), fun e => by cases e⟩
  · exact ⟨false, Ev.neg h1 (Ev.now _), fun e => by cases e⟩
theorem FewResp_ok (st : Int) (l : List S56) (body : List Int) : ∃ b, Ev (fun k => sprlaw20_FewResp.f k st l body) b ∧ (b = true → l.length ≤ 80 ∧ ∀ x ∈ l, 1 ≤ x.f0.size → x.f1.size ≤ 20000) := by
  unfold sprlaw20_FewResp.f
  obtain ⟨b, hb, hf⟩ := Few_ok l
  cases b
  · exact ⟨false, Ev.bind hb (Ev.neg (by simp) (Ev.now _)), fun e => by cases e⟩
  · exact ⟨_, Ev.bind hb (Ev.pos rfl (Ev.now _)), fun _ => hf rfl⟩
theorem FewResp2_ok (st : Int) (l : List S56) (body : List Int) : ∃ b, Ev (fun k => sprlaw20_FewResp.f k st l body) b ∧ (b = true → (l.length ≤ 80 ∧ ∀ x ∈ l, 1 ≤ x.f0.size → x.f1.size ≤ 20000) ∧ body.length ≤ 25000) := by
  unfold sprlaw20_FewResp.f
  obtain ⟨b, hb, hf⟩ := Few_ok l
  cases b
  · exact ⟨false, Ev.bind hb (Ev.neg (by simp) (Ev.now _)), fun e => by cases e⟩
  · exact ⟨_, Ev.bind hb (Ev.pos rfl (Ev.now _)), fun e => ⟨hf rfl, by have := of_decide_eq_true e; omega⟩⟩
theorem LinesOk.more {l : List S56} (h : LinesOk l) (hl : l.length ≤ 80) (f c : ByteArray) (hf : f.size ≤ 100) (hc : c.size ≤ 100) : LinesOk (l ++ [(⟨f, c⟩ : S56)]) :=
  ⟨by simp; omega, fun x hx => by
    rcases List.mem_append.1 hx with q | q
    · exact h.okL x q
    · rw [List.mem_singleton.1 q]; exact ⟨by show f.size ≤ _; omega, by show c.size ≤ _; omega⟩, fun x hx h1 => by
    rcases List.mem_append.1 hx with q | q
    · exact h.val x q h1
    · rw [List.mem_singleton.1 q]; show c.size ≤ _; omega⟩
theorem LowerR_ok {s : ByteArray} (h : s.size ≤ 9223372036854775807) : sprref12_Lower.f s = some (Own.low s) := by
  unfold sprref12_Lower.f; rw [if_pos h]
theorem same_dec (a b : ByteArray) : ((Own.low a).toList = (Own.low b).toList) ↔ Own.same a b = true := by
  unfold Own.same; rw [beq_iff_eq]
theorem AllR_loop (l : List S56) (n : ByteArray) (hl : l.length ≤ 1000000) (ho : okL l) (hn : n.size ≤ 9223372036854775807) : ∀ (t : List S56) (i : Nat) (acc : List ByteArray), l.drop i = t → acc.length ≤ i → Ev (fun k => sprref12_All.l0 k l n acc (i : Int)) (acc ++ allOf t n)
  | [], i, acc, ht, ha => by
    have := drop_nil ht
    have e : allOf [] n = [] := rfl
    rw [e, List.append_nil]
    exact Ev.step (fun _ => sprref12_All.l0.eq_2 ..) (Ev.neg (by omega) (Ev.now _))
  | x :: t, i, acc, ht, ha => by
    obtain ⟨a1, a2, a3⟩ := drop_cons ht
    have hx := ho x (List.mem_of_getElem? a2)
    have r1 : rd_T56 l (i : Int) = x := by unfold rd_T56; rw [Int.toNat_natCast, List.getD_eq_getElem?_getD, a2]; rfl
    refine Ev.step (fun _ => sprref12_All.l0.eq_2 ..) (Ev.pos (by omega) (Ev.pos (by omega) ?_))
    rw [r1, wrap_id (by omega) (by omega), cast_succ]
    refine Ev.bnd (LowerR_ok hx.1) (Ev.bnd (LowerR_ok hn) ?_)
    cases hs : Own.same x.f0 n with
    | true =>
      have ih := AllR_loop l n hl ho hn t (i + 1) (acc ++ [x.f1]) a3 (by rw [List.length_append, List.length_singleton]; omega)
      have e : allOf (x :: t) n = x.f1 :: allOf t n := by simp [allOf, hs]
      rw [e]
      rw [List.append_assoc] at ih
      exact Ev.pos ((same_dec _ _).2 hs) (Ev.pos (by omega) ih)
    | false =>
      have ih := AllR_loop l n hl ho hn t (i + 1) acc a3 (by omega)
      have e : allOf (x :: t) n = allOf t n := by simp [allOf, hs]
      rw [e]
      exact Ev.neg (fun h => by rw [(same_dec _ _).1 h] at hs; cases hs) ih
theorem AllR_ok {l : List S56} (hl : l.length ≤ 1000000) (ho : okL l) {n : ByteArray} (hn : n.size ≤ 9223372036854775807) : Ev (fun k => sprref12_All.f k l n) (allOf l n) := AllR_loop l n hl ho hn l 0 [] rfl (Nat.le_refl 0)
theorem rdw_snoc (p : UInt8 → Bool) (l : List UInt8) (c : UInt8) : rdw p (l ++ [c]) = if p c = true then rdw p l else l ++ [c] := by
  unfold rdw
  rw [List.reverse_append]
  by_cases h : p c = true
  · simp [h]
  · simp [h]
theorem blank_iff (c : UInt8) : blank c = true ↔ ((c.toNat : Int) = 32 ∨ (c.toNat : Int) = 9) := by
  rw [show (32 : Int) = ((32 : Nat) : Int) from rfl, show (9 : Int) = ((9 : Nat) : Int) from rfl, u8_eq c 32 (by omega), u8_eq c 9 (by omega)]
  unfold blank
  simp
theorem TrimR_l1 : ∀ (n : Nat) (s : ByteArray), s.size ≤ n → s.size ≤ 1000000000 → Ev (fun k => sprref12_Trim.l1 k s) (mk (rdw blank (B s)))
  | n, s, hn, hs => by
    refine Ev.step (fun _ => sprref12_Trim.l1.eq_2 ..) ?_
    rcases List.eq_nil_or_concat (B s) with he | ⟨l, c, he⟩
    · have h0 : s.size = 0 := by rw [size_B, he]; rfl
      refine Ev.neg (by omega) (Ev.konst ?_)
      rw [← mk_B s, he]; rfl
    · have hsz : s.size = l.length + 1 := by rw [size_B, he]; simp
      have w1 : wrap64 ((s.size : Int) - 1) = ((l.length : Nat) : Int) := by rw [wrap_id (by omega) (by omega)]; omega
      have hc : bt s ((l.length : Nat) : Int) = (c.toNat : Int) := bt_of (by rw [he]; simp)
      have hin : B (s.extract 0 l.length) = l := by rw [B_to, he]; simp
      have hl : (s.extract 0 l.length).size = l.length := by rw [size_B, hin]
      rw [w1, hc, he, List.concat_eq_append, rdw_snoc, Int.toNat_natCast]
      refine Ev.pos (by omega) (Ev.pos (by omega) (Ev.pos (by omega) ?_))
      obtain ⟨n, rfl⟩ : ∃ m, n = m + 1 := ⟨n - 1, by omega⟩
      by_cases h1 : (c.toNat : Int) = 32
      · rw [if_pos ((blank_iff c).2 (.inl h1))]
        refine Ev.pos h1 (Ev.pos (by omega) ?_)
        have := TrimR_l1 n (s.extract 0 l.length) (by omega) (by omega)
        rw [hin] at this; exact this
      · by_cases h2 : (c.toNat : Int) = 9
        · rw [if_pos ((blank_iff c).2 (.inr h2))]
          refine Ev.neg h1 (Ev.pos h2 (Ev.pos (by omega) ?_))
          have := TrimR_l1 n (s.extract 0 l.length) (by omega) (by omega)
          rw [hin] at this; exact this
        · rw [if_neg (fun h => ((blank_iff c).1 h).elim h1 h2)]
          refine Ev.neg h1 (Ev.neg h2 (Ev.konst ?_))
          rw [← mk_B s, he, List.concat_eq_append]
theorem TrimR_l0 : ∀ (n : Nat) (s : ByteArray), s.size ≤ n → s.size ≤ 1000000000 → Ev (fun k => sprref12_Trim.l0 k s) (mk (tr (B s)))
  | n, s, hn, hs => by
    refine Ev.step (fun _ => sprref12_Trim.l0.eq_2 ..) ?_
    rw [tr_eq]
    have fin : ∀ l, l = B s → Ev (fun k => sprref12_Trim.j1 k s) (mk (rdw blank l)) := fun l e => by
      subst e
      exact Ev.step (fun _ => sprref12_Trim.j1.eq_2 ..) (TrimR_l1 s.size s (Nat.le_refl _) hs)
    cases he : B s with
    | nil =>
      have h0 : s.size = 0 := by rw [size_B, he]; rfl
      exact Ev.neg (by omega) (fin _ (by rw [he]; rfl))
    | cons c t =>
      have hsz : s.size = t.length + 1 := by rw [size_B, he]; simp
      have hc : bt s 0 = (c.toNat : Int) := bt_of (i := 0) (by rw [he]; rfl)
      have hin : B (s.extract 1 s.size) = t := by rw [B_from, he]; rfl
      have hl : (s.extract 1 s.size).size = t.length := by rw [size_B, hin]
      rw [hc, List.dropWhile_cons]
      refine Ev.pos (by omega) (Ev.pos (by omega) ?_)
      obtain ⟨n, rfl⟩ : ∃ m, n = m + 1 := ⟨n - 1, by omega⟩
      by_cases h1 : (c.toNat : Int) = 32
      · rw [if_pos ((blank_iff c).2 (.inl h1))]
        refine Ev.pos h1 (Ev.pos (by omega) ?_)
        have := TrimR_l0 n (s.extract 1 s.size) (by omega) (by omega)
        rw [hin, tr_eq] at this; exact this
      · by_cases h2 : (c.toNat : Int) = 9
        · rw [if_pos ((blank_iff c).2 (.inr h2))]
          refine Ev.neg h1 (Ev.pos h2 (Ev.pos (by omega) ?_))
          have := TrimR_l0 n (s.extract 1 s.size) (by omega) (by omega)
          rw [hin, tr_eq] at this; exact this
        · rw [if_neg (fun h => ((blank_iff c).1 h).elim h1 h2)]
          exact Ev.neg h1 (Ev.neg h2 (fin _ he.symm))
theorem TrimR_ok (s : ByteArray) (hs : s.size ≤ 1000000000) : Ev (fun k => sprref12_Trim.f k s) (mk (tr (B s))) := by
  unfold sprref12_Trim.f
  exact TrimR_l0 s.size s (Nat.le_refl _) hs
theorem pieceR_ok (acc : List ByteArray) (s : ByteArray) (hs : s.size ≤ 1000000000) (ha : acc.length ≤ 2000000000) : Ev (fun k => sprref12_piece.f k acc s) (acc ++ (one (B s)).map mk) := by
  unfold sprref12_piece.f
  refine Ev.bind (TrimR_ok s hs) ?_
  by_cases hz : tr (B s) = []
  · rw [one, if_pos hz]
    exact Ev.pos (by rw [toList_B, B_mk, hz]) (Ev.konst (by simp))
  · rw [one, if_neg hz]
    exact Ev.neg (by rw [toList_B, B_mk]; exact hz) (Ev.pos (by omega) (Ev.konst (by simp)))
theorem take_more {l : List UInt8} {f i : Nat} {cur : List UInt8} {c : UInt8} {t : List UInt8} (h : (l.drop f).take (i - f) = cur) (hd : l.drop i = c :: t) (hf : f ≤ i) : (l.drop f).take (i + 1 - f) = cur ++ [c] := by
  obtain ⟨_, h2, _⟩ := drop_cons hd
  rw [show i + 1 - f = (i - f) + 1 from by omega, List.take_add_one, h, List.getElem?_drop, show f + (i - f) = i from by omega, h2]
  rfl
theorem piecesR_loop (s : ByteArray) (hs : s.size ≤ 1100000) : ∀ (n : Nat) (l cur : List UInt8) (acc : List ByteArray) (f i : Nat) (q : Bool), l.length ≤ n → (B s).drop i = l → f ≤ i → i ≤ s.size → ((B s).drop f).take (i - f) = cur → acc.length ≤ 1000 + i →
    Ev (fun k => sprref12_pieces.l0 k s acc (f : Int) q (i : Int)) (acc ++ (rf cur q l).map mk)
  | n, [], cur, acc, f, i, q, hn, hl, hf, hi, hc, ha => by
    have h1 := end_drop hl
    have e : i = s.size := by omega
    have hB : B (s.extract f s.size) = cur := by
      rw [B_from, ← hc]
      exact (List.take_of_length_le (by rw [List.length_drop, ← size_B]; omega)).symm
    have hsz : (s.extract f s.size).size ≤ 1100000 := by rw [size_B, B_from, List.length_drop, ← size_B]; omega
    refine Ev.step (fun _ => sprref12_pieces.l0.eq_2 ..) (Ev.neg (by omega) (Ev.pos (by omega) (Ev.pos (by omega) ?_)))
    rw [Int.toNat_natCast]
    refine Ev.bind (pieceR_ok acc _ (by omega) (by omega)) (Ev.konst ?_)
    rw [hB]; rfl
  | 0, c :: t, cur, acc, f, i, q, hn, hl, hf, hi, hc, ha => by simp at hn
  | n + 1, c :: t, cur, acc, f, i, q, hn, hl, hf, hi, hc, ha => by
    obtain ⟨h1, h2, h3⟩ := bt_drop hl
    simp only [List.length_cons] at hn
    have w1 : wrap64 ((i : Int) + 1) = ((i + 1 : Nat) : Int) := by rw [wrap_id (by omega) (by omega)]; omega
    have w2 : wrap64 (((i + 1 : Nat) : Int) + 1) = ((i + 2 : Nat) : Int) := by rw [wrap_id (by omega) (by omega)]; omega
    have hm := take_more hc hl hf
    refine Ev.step (fun _ => sprref12_pieces.l0.eq_2 ..) (Ev.pos (by omega) ?_)
    rw [h1]
    have tail : ∀ b, ¬ b = true → ¬ (q = true ∧ c = 92) → Ev (fun k => sprref12_pieces.j1 k s acc (f : Int) q (i : Int) b) (acc ++ (if c = 34 then rf (cur ++ [c]) (!q) t else if c = 44 ∧ q = false then one cur ++ rf [] false t else rf (cur ++ [c]) q t).map mk) := by
      intro b hb hq
      refine Ev.step (fun _ => sprref12_pieces.j1.eq_2 ..) (Ev.neg hb (Ev.pos (by omega) (Ev.pos (by omega) ?_)))
      rw [h1, w1]
      by_cases e1 : c = 34
      · rw [if_pos e1]
        exact Ev.pos ((u8_eq c 34 (by omega)).2 e1) (piecesR_loop s hs n t _ acc f (i + 1) (!q) (by omega) h3 (by omega) (by omega) hm (by omega))
      · rw [if_neg e1]
        refine Ev.neg (fun h => e1 ((u8_eq c 34 (by omega)).1 h)) ?_
        by_cases e3 : c = 44
        · refine Ev.pos ((u8_eq c 44 (by omega)).2 e3) ?_
          cases q with
          | true =>
            rw [if_neg (by simp)]
            exact Ev.pos rfl (piecesR_loop s hs n t _ acc f (i + 1) true (by omega) h3 (by omega) (by omega) hm (by omega))
          | false =>
            rw [if_pos ⟨e3, rfl⟩]
            have hB : B (s.extract f i) = cur := by rw [B_extract, hc]
            have hsz : (s.extract f i).size ≤ 1100000 := by rw [size_B, B_extract]; have := List.length_take_le (i - f) ((B s).drop f); omega
            refine Ev.neg (by simp) (Ev.pos (by omega) (Ev.pos (by omega) (Ev.pos (by omega) ?_)))
            rw [Int.toNat_natCast, Int.toNat_natCast]
            refine Ev.bind (pieceR_ok acc _ (by omega) (by omega)) ?_
            rw [hB]
            have ho := one_len cur
            have := piecesR_loop s hs n t [] (acc ++ (one cur).map mk) (i + 1) (i + 1) false (by omega) h3 (by omega) (by omega) (by simp) (by rw [List.length_append, List.length_map]; omega)
            simpa using this
        · rw [if_neg (fun h => e3 h.1)]
          exact Ev.neg (fun h => e3 ((u8_eq c 44 (by omega)).1 h)) (piecesR_loop s hs n t _ acc f (i + 1) q (by omega) h3 (by omega) (by omega) hm (by omega))
    cases q with
    | false =>
      rw [rf_plain _ _ _ _ (by simp)]
      exact Ev.neg (by simp) (tail false (by simp) (by simp))
    | true =>
      refine Ev.pos rfl (Ev.pos (by omega) ?_)
      by_cases e2 : c = 92
      · rw [show ((c.toNat : Int) == 92) = true from by simpa using (u8_eq c 92 (by omega)).2 e2]
        have e1 : ¬ c = 34 := by rw [e2]; decide
        rw [rf_cons, if_neg e1, if_pos ⟨rfl, e2⟩]
        refine Ev.step (fun _ => sprref12_pieces.j1.eq_2 ..) (Ev.pos rfl ?_)
        rw [w1, w2]
        cases t with
        | nil =>
          have h4 := end_drop h3
          have hB : B (s.extract f s.size) = cur ++ [c] := by
            rw [B_from, ← hm]
            exact (List.take_of_length_le (by rw [List.length_drop, ← size_B]; omega)).symm
          have hsz : (s.extract f s.size).size ≤ 1100000 := by rw [size_B, B_from, List.length_drop, ← size_B]; omega
          refine Ev.step (fun _ => sprref12_pieces.l0.eq_2 ..) (Ev.neg (by omega) (Ev.pos (by omega) (Ev.pos (by omega) ?_)))
          rw [Int.toNat_natCast]
          refine Ev.bind (pieceR_ok acc _ (by omega) (by omega)) (Ev.konst ?_)
          rw [hB]
        | cons d u =>
          obtain ⟨_, h5, h6⟩ := bt_drop h3
          have hm2 := take_more hm h3 (by omega)
          simp only [List.length_cons] at hn
          have := piecesR_loop s hs n u (cur ++ [c, d]) acc f (i + 2) true (by omega) h6 (by omega) (by omega) (by rw [show i + 2 - f = i + 1 + 1 - f from by omega, hm2]; simp) (by omega)
          exact this
      · rw [show ((c.toNat : Int) == 92) = false from by simpa using fun h => e2 ((u8_eq c 92 (by omega)).1 h), rf_plain _ _ _ _ (fun h => e2 h.2)]
        exact tail false (by simp) (fun h => e2 h.2)
theorem piecesR_ok (s : ByteArray) (hs : s.size ≤ 1100000) : Ev (fun k => sprref12_pieces.f k s) ((pieces (B s)).map mk) := by
  unfold sprref12_pieces.f
  have := piecesR_loop s hs (B s).length (B s) [] [] 0 0 false (Nat.le_refl _) rfl (by omega) (by omega) (by simp) (by simp)
  simpa [pieces] using this
theorem splitR_loop (v : List ByteArray) (hv : v.length ≤ 1000000) (hb : ∀ s ∈ v, s.size ≤ 1100000) : ∀ (l : List ByteArray) (i : Nat) (acc : List ByteArray), v.drop i = l → acc.length ≤ 1100001 * i → i + l.length ≤ 400 →
    Ev (fun k => sprref12_Split.l0 k v acc (i : Int)) (acc ++ (splits l).map mk)
  | [], i, acc, hl, ha, hi => by
    have := drop_nil hl
    refine Ev.step (fun _ => sprref12_Split.l0.eq_2 ..) (Ev.neg (by omega) (Ev.konst ?_))
    simp [splits]
  | s :: t, i, acc, hl, ha, hi => by
    obtain ⟨h1, h2, h3⟩ := drop_cons hl
    have hs := hb s (List.mem_of_getElem? h2)
    have hp := pieces_len (B s).length (B s) (Nat.le_refl _)
    rw [← size_B] at hp
    simp only [List.length_cons] at hi
    refine Ev.step (fun _ => sprref12_Split.l0.eq_2 ..) (Ev.pos (by omega) (Ev.pos (by omega) ?_))
    rw [rdOf_of h2]
    refine Ev.bind (piecesR_ok s hs) (Ev.pos (by rw [List.length_map]; omega) ?_)
    rw [wrap_id (by omega) (by omega), cast_succ]
    have := splitR_loop v hv hb t (i + 1) (acc ++ (pieces (B s)).map mk) h3 (by rw [List.length_append, List.length_map]; omega) (by omega)
    simpa [splits] using this
theorem LowerR1_ok {s : ByteArray} (h : s.size ≤ 9223372036854775807) : sprref12_Lower.f s = some (Own.low s) := by
  unfold sprref12_Lower.f; rw [if_pos h]
theorem SecR_loop (s : ByteArray) (hs : s.size ≤ 1000000000) : ∀ (t : List UInt8) (i : Nat) (n : Int), (B s).drop i = t → 0 ≤ n → n ≤ 2147483648 → Ev (fun k => sprref14_Seconds.l0 k s n (i : Int)) (match secVal t n with | some m => (if s.size < 1 ∨ 4000 < s.size then ((0 : Int), false) else (m, true)) | none => (0, false))
  | [], i, n, h, h0, h1 => by
    have := end_drop h
    refine Ev.step (fun _ => sprref14_Seconds.l0.eq_2 ..) (Ev.neg (by omega) ?_)
    show Ev _ (if s.size < 1 ∨ 4000 < s.size then ((0 : Int), false) else (n, true))
    by_cases a : s.size < 1
    · rw [if_pos (Or.inl a)]; exact Ev.pos (by omega) (Ev.now _)
    · refine Ev.neg (by omega) ?_
      by_cases b : 4000 < s.size
      · rw [if_pos (Or.inr b)]; exact Ev.pos (by omega) (Ev.now _)
      · rw [if_neg (show ¬ (s.size < 1 ∨ 4000 < s.size) by omega)]; exact Ev.neg (by omega) (Ev.now _)
  | c :: t, i, n, h, h0, h1 => by
    obtain ⟨e1, e2, e3⟩ := bt_drop h
    have u := u8_lt c
    refine Ev.step (fun _ => sprref14_Seconds.l0.eq_2 ..) (Ev.pos (by omega) (Ev.pos (by omega) ?_))
    rw [e1]
    unfold secVal
    by_cases a1 : (c.toNat : Int) < 48
    · rw [if_neg (by omega)]; exact Ev.pos a1 (Ev.now _)
    · refine Ev.neg a1 ?_
      by_cases a2 : (c.toNat : Int) > 57
      · rw [if_neg (by omega)]; exact Ev.pos a2 (Ev.now _)
      · refine Ev.neg a2 ?_
        rw [if_pos (by omega), wrap_id (x := 10 * n) (by omega) (by omega), Int.emod_eq_of_lt (by omega) (by omega), wrap_id (x := 10 * n + _) (by omega) (by omega), wrap_id (x := (i : Int) + 1) (by omega) (by omega), cast_succ, Int.mul_comm 10 n]
        have q := mn_le (n * 10 + ((c.toNat : Int) - 48)) 2147483648
        exact SecR_loop s hs t (i + 1) _ e3 (by unfold mn; split <;> omega) q.1
theorem SecR_ok (s : ByteArray) (hs : s.size ≤ 1000000000) : Ev (fun k => sprref14_Seconds.f k s) (secsOf (B s)) := by
  unfold sprref14_Seconds.f
  have h := SecR_loop s hs (B s) 0 0 rfl (by omega) (by omega)
  have e : (match secVal (B s) 0 with | some m => (if s.size < 1 ∨ 4000 < s.size then ((0 : Int), false) else (m, true)) | none => (0, false)) = secsOf (B s) := by
    unfold secsOf
    rw [size_B]
    by_cases a : B s = [] ∨ 4000 < (B s).length
    · rw [if_pos a]
      have b : (B s).length < 1 ∨ 4000 < (B s).length := by
        rcases a with a | a
        · left; rw [a]; simp
        · exact Or.inr a
      cases secVal (B s) 0 with
      | none => rfl
      | some m => show (if _ then _ else _) = _; rw [if_pos b]
    · rw [if_neg a]
      have b : ¬ ((B s).length < 1 ∨ 4000 < (B s).length) := by
        rintro (b | b)
        · exact a (Or.inl (List.length_eq_zero_iff.1 (by omega)))
        · exact a (Or.inr b)
      cases secVal (B s) 0 with
      | none => rfl
      | some m => show (if _ then _ else _) = _; rw [if_neg b]
  rw [e] at h
  exact h
theorem cutL_take : ∀ l : List UInt8, (cutL l).1 = l.take (cutL l).1.length
  | [] => rfl
  | c :: t => by
    unfold cutL
    by_cases hc : c = 61
    · rw [if_pos hc]; rfl
    · rw [if_neg hc]
      show c :: (cutL t).1 = (c :: t).take ((cutL t).1.length + 1)
      rw [List.take_succ_cons, ← cutL_take t]
theorem SplitR1_loop (p : ByteArray) (hp : p.size ≤ 1000000000) : ∀ (t : List UInt8) (i fr : Nat) (acc : List ByteArray), (B p).drop i = t → i ≤ p.size → fr ≤ i → acc.length ≤ i → ∃ L, Ev (fun k => sprref_Split.l0 k p 61 acc (fr : Int) (i : Int)) (acc ++ p.extract fr (i + (cutL t).1.length) :: L)
  | [], i, fr, acc, h, hi, hf, ha => by
    have := end_drop h
    refine ⟨[], ?_⟩
    refine Ev.step (fun _ => sprref_Split.l0.eq_2 ..) (Ev.pos (by omega) (Ev.pos (by omega) (Ev.pos (by omega) (Ev.pos (by omega) (Ev.pos (by omega) ?_)))))
    rw [wrap_id (x := (i : Int) + 1) (by omega) (by omega), cast_succ]
    exact Ev.step (fun _ => sprref_Split.l0.eq_2 ..) (Ev.neg (by omega) (Ev.now _))
  | c :: t, i, fr, acc, h, hi, hf, ha => by
    obtain ⟨e1, e2, e3⟩ := bt_drop h
    have u := u8_lt c
    by_cases hc : c = 61
    · obtain ⟨L, hL⟩ := SplitR1_loop p hp t (i + 1) (i + 1) (acc ++ [p.extract fr i]) e3 (by omega) (by omega) (by simp; omega)
      refine ⟨p.extract (i + 1) (i + 1 + (cutL t).1.length) :: L, ?_⟩
      · refine Ev.step (fun _ => sprref_Split.l0.eq_2 ..) (Ev.pos (by omega) (Ev.neg (by omega) (Ev.pos (by omega) (Ev.pos (by omega) (Ev.pos (by rw [e1, hc]; rfl) (Ev.pos (by omega) (Ev.pos (by omega) (Ev.pos (by omega) ?_))))))))
        rw [wrap_id (x := (i : Int) + 1) (by omega) (by omega), cast_succ, Int.toNat_natCast, Int.toNat_natCast]
        have e : cutL (c :: t) = ([], t, true) := by unfold cutL; rw [if_pos hc]
        rw [e]
        rw [List.append_assoc] at hL
        exact hL
    · obtain ⟨L, hL⟩ := SplitR1_loop p hp t (i + 1) fr acc e3 (by omega) (by omega) (by omega)
      refine ⟨L, ?_⟩
      refine Ev.step (fun _ => sprref_Split.l0.eq_2 ..) (Ev.pos (by omega) (Ev.neg (by omega) (Ev.pos (by omega) (Ev.pos (by omega) (Ev.neg (fun q => hc ((u8_eq c 61 (by omega)).1 (by rw [← e1]; exact q))) ?_)))))
      rw [wrap_id (x := (i : Int) + 1) (by omega) (by omega), cast_succ]
      unfold cutL
      rw [if_neg hc]
      have e : i + ((c :: (cutL t).1).length) = i + 1 + (cutL t).1.length := by simp only [List.length_cons]; omega
      show Ev _ (acc ++ p.extract fr (i + ((c :: (cutL t).1).length)) :: L)
      rw [e]; exact hL
theorem SplitR1_ok (p : List UInt8) (hp : p.length ≤ 1000000000) : ∃ L, Ev (fun k => sprref_Split.f k (mk p) 61) (mk (cutL p).1 :: L) := by
  obtain ⟨L, hL⟩ := SplitR1_loop (mk p) (by rw [size_B]; exact hp) (B (mk p)) 0 0 [] rfl (by omega) (by omega) (by simp)
  refine ⟨L, ?_⟩
  rw [B_mk, Nat.zero_add, List.nil_append] at hL
  have e : (mk p).extract 0 (cutL p).1.length = mk (cutL p).1 := by
    apply B_inj
    rw [B_extract, B_mk, B_mk, List.drop_zero, Nat.sub_zero, ← cutL_take]
  rw [e] at hL
  exact hL
theorem unqB_ok (s : ByteArray) : unqB s = mk (unq (B s)) := by
  unfold unqB unq
  rw [size_B]
  by_cases h : 2 ≤ (B s).length
  · rw [if_pos h]
    obtain ⟨c, c1, c2⟩ := bt_at (s := s) (i := 0) (by rw [size_B]; omega)
    obtain ⟨d, d1, d2⟩ := bt_at (s := s) (i := (B s).length - 1) (by rw [size_B]; omega)
    rw [show (((B s).length : Int) - 1) = (((B s).length - 1 : Nat) : Int) by omega, d2, show bt s 0 = (c.toNat : Int) from c2]
    by_cases a1 : (c.toNat : Int) = 34
    · rw [if_pos a1]
      have b1 : c = 34 := (u8_eq c 34 (by omega)).1 a1
      by_cases a2 : (d.toNat : Int) = 34
      · have b2 : d = 34 := (u8_eq d 34 (by omega)).1 a2
        rw [if_pos a2, if_pos ⟨h, by rw [c1, b1], by rw [d1, b2]⟩]
        apply B_inj
        rw [B_extract, B_mk]
        congr 1
      · rw [if_neg a2, if_neg (fun q => a2 (by have := q.2.2; rw [d1] at this; rw [Option.some.inj this]; rfl)), mk_B]
    · rw [if_neg a1, if_neg (fun q => a1 (by have := q.2.1; rw [c1] at this; rw [Option.some.inj this]; rfl)), mk_B]
  · rw [if_neg h, if_neg (fun q => h q.1), mk_B]
theorem tailR_ok (c : Own.Ctl) (nm ar : List UInt8) (has : Bool) (h1 : nm.length ≤ 1000000000) (h2 : ar.length ≤ 1000000000) : Ev (fun k => sprref14_Parse.tail k c (mk nm) has (mk ar)) (c.act (Own.kindOf (Own.low (mk (tr nm)))) has (secsOf (unq ar)).1 (secsOf (unq ar)).2) := by
  have t1 := tr_len nm
  have t3 := unq_len ar
  have z : ∀ l : List UInt8, (mk l).size = l.length := fun l => size_B (mk l)
  unfold sprref14_Parse.tail
  rw [unqB_ok, B_mk]
  refine Ev.bind (TrimR_ok _ (by rw [z]; exact h1)) ?_
  rw [B_mk]
  refine Ev.bnd (LowerR1_ok (by rw [z]; omega)) (Ev.bind (SecR_ok _ (by rw [z]; omega)) ?_)
  exact Ev.now _
theorem stepR_ok (c : Own.Ctl) (p : List UInt8) (hp : p.length ≤ 1000000000) : Ev (fun k => sprref14_Parse.step k c (mk p)) (actL c p) := by
  obtain ⟨h1, h2, h3, h4⟩ := cutL_len p
  have t2 := tr_len (cutL p).2.1
  have z : ∀ l : List UInt8, (mk l).size = l.length := fun l => size_B (mk l)
  obtain ⟨L, hL⟩ := SplitR1_ok p hp
  unfold sprref14_Parse.step
  refine Ev.bind hL ?_
  show Ev (fun k => sprref14_Parse.named k c (mk p) (mk (cutL p).1)) _
  unfold sprref14_Parse.named
  rw [z, z]
  unfold actL actD dirOf
  cases hb : (cutL p).2.2 with
  | true =>
    obtain ⟨a, b⟩ := h4 hb
    have e : B ((mk p).extract ((cutL p).1.length + 1) p.length) = (cutL p).2.1 := by
      rw [b]
      have := B_from (mk p) ((cutL p).1.length + 1)
      rw [z, B_mk] at this
      exact this
    refine Ev.pos a (Ev.pos (by omega) (Ev.bind (TrimR_ok _ ?_) ?_))
    · rw [size_B, e]; omega
    · rw [e]
      refine Ev.pos (by rw [z]; omega) ?_
      exact tailR_ok c _ _ true (by omega) (by omega)
  | false =>
    obtain ⟨a, b⟩ := h3 hb
    refine Ev.neg (by rw [a]; omega) ?_
    rw [b]
    exact tailR_ok c _ [] false (by omega) (by simp)
theorem stepsR_ok : ∀ (ps : List (List UInt8)) (c : Own.Ctl), (∀ p ∈ ps, p.length ≤ 1000000000) → Ev (fun k => sprref14_Parse.steps k (ps.map mk) c) (ps.foldl actL c)
  | [], c, _ => Ev.now _
  | p :: t, c, h => Ev.bind (stepR_ok c p (h p List.mem_cons_self)) (stepsR_ok t _ (fun q hq => h q (List.mem_cons_of_mem _ hq)))
theorem ParseR_ok (v : List ByteArray) (hv : v.length ≤ 400) (hb : ∀ s ∈ v, s.size ≤ 1100000) : Ev (fun k => sprref14_Parse.f k v) (ctlOf v).tup := by
  have hS : Ev (fun k => sprref12_Split.f k v) ((splits v).map mk) := by
    have := splitR_loop v (by omega) (fun s hs => by have := hb s hs; omega) v 0 [] rfl (by simp) (by omega)
    rw [List.nil_append] at this
    exact this
  unfold sprref14_Parse.f
  refine Ev.bind hS (Ev.bind (stepsR_ok (splits v) _ (fun p hp => by have := splits_small v hb p hp; omega)) ?_)
  exact Ev.now _
theorem amongR_loop (s : ByteArray) (hs : s.size ≤ 1000000000) (c : UInt8) : ∀ (t : List UInt8) (i : Nat), (B s).drop i = t → Ev (fun k => sprref12_among.l0 k s (c.toNat : Int) (i : Int)) (t.contains c)
  | [], i, ht => by
    have := end_drop ht
    exact Ev.step (fun _ => sprref12_among.l0.eq_2 ..) (Ev.neg (by omega) (Ev.now _))
  | x :: t, i, ht => by
    obtain ⟨a1, a2, a3⟩ := bt_drop ht
    refine Ev.step (fun _ => sprref12_among.l0.eq_2 ..) (Ev.pos (by omega) (Ev.pos (by omega) ?_))
    rw [a1, wrap_id (by omega) (by omega), cast_succ]
    by_cases h : x = c
    · refine Ev.pos (by rw [h]) ?_
      rw [h]; simp; exact Ev.now _
    · have h' : ¬ (x.toNat : Int) = (c.toNat : Int) := fun e => h (UInt8.toNat_inj.1 (by omega))
      refine Ev.neg h' ?_
      have e : (x :: t).contains c = t.contains c := by
        rw [List.contains_cons]
        have : (c == x) = false := beq_eq_false_iff_ne.2 (fun e => h e.symm)
        rw [this, Bool.false_or]
      rw [e]; exact amongR_loop s hs c t (i + 1) a3
theorem in_range {lo hi c : Int} {X Y : Nat → Option Bool} {r : Bool} (f : Option Bool) (hf : f = some (decide (lo ≤ c ∧ c ≤ hi))) (h1 : lo ≤ c ∧ c ≤ hi → Ev X r) (h2 : ¬ (lo ≤ c ∧ c ≤ hi) → Ev Y r) : Ev (fun k => f.bind fun t => if t = true then X k else Y k) r := by
  rw [hf]
  by_cases h : lo ≤ c ∧ c ≤ hi
  · rw [decide_eq_true h]; exact h1 h
  · rw [decide_eq_false h]; exact h2 h
theorem rng (lo hi c : Int) : (if c ≥ lo then (some (decide (c ≤ hi))) else (some false)) = some (decide (lo ≤ c ∧ c ≤ hi)) := by
  by_cases h : c ≥ lo
  · rw [if_pos h]; congr 1; rw [Bool.eq_iff_iff]; simp; omega
  · rw [if_neg h, decide_eq_false (fun z => h z.1)]
theorem NameR_loop (s : ByteArray) (hs : s.size ≤ 9223372036854775807) : ∀ (t : List UInt8) (i : Nat), (B s).drop i = t → Ev (fun k => sprref12_Name.l0 k s (i : Int)) (t.all tch && (decide (1 ≤ s.size) && decide (s.size ≤ 100)))
  | [], i, ht => by
    have := end_drop ht
    refine Ev.step (fun _ => sprref12_Name.l0.eq_2 ..) (Ev.neg (by omega) ?_)
    rw [List.all_nil, Bool.true_and]
    by_cases h : (s.size : Int) ≥ 1
    · refine Ev.pos h (Ev.konst ?_)
      rw [decide_eq_true (show 1 ≤ s.size by omega), Bool.true_and]
      congr 1
      rw [Bool.eq_iff_iff]; simp; omega
    · refine Ev.neg h ?_
      rw [decide_eq_false (show ¬ 1 ≤ s.size by omega)]; exact Ev.now _
  | c :: t, i, ht => by
    obtain ⟨a1, a2, a3⟩ := bt_drop ht
    have ih := NameR_loop s hs t (i + 1) a3
    refine Ev.step (fun _ => sprref12_Name.l0.eq_2 ..) (Ev.pos (by omega) (Ev.pos (by omega) ?_))
    rw [a1, wrap_id (by omega) (by omega), cast_succ]
    have yes : tch c = true → Ev (fun k => sprref12_Name.l0 k s ((i + 1 : Nat) : Int)) ((c :: t).all tch && (decide (1 ≤ s.size) && decide (s.size ≤ 100))) := fun h => by
      rw [List.all_cons, h, Bool.true_and]; exact ih
    have T := @tch_of c
    refine in_range (lo := 97) (hi := 122) (c := (c.toNat : Int)) _ (rng ..) (fun h => yes (by rw [T, decide_eq_true h]; simp)) (fun n1 => in_range (lo := 65) (hi := 90) (c := (c.toNat : Int)) _ (rng ..) (fun h => yes (by rw [T, decide_eq_true h]; simp)) (fun n2 => in_range (lo := 48) (hi := 57) (c := (c.toNat : Int)) _ (rng ..) (fun h => yes (by rw [T, decide_eq_true h]; simp)) (fun n3 => Ev.bind (amongR_loop others (by decide) c (B others) 0 rfl) ?_)))
    have T2 : tch c = (B others).contains c := by
      rw [T, decide_eq_false n1, decide_eq_false n2, decide_eq_false n3]; simp
    by_cases hx : (B others).contains c = true
    · exact Ev.pos hx (yes (by rw [T2, hx]))
    · refine Ev.neg hx ?_
      rw [List.all_cons, T2, Bool.eq_false_iff.2 hx]; exact Ev.now _
theorem NameR_ok (s : ByteArray) (hs : s.size ≤ 9223372036854775807) : Ev (fun k => sprref12_Name.f k s) (nm s) := NameR_loop s hs (B s) 0 rfl
theorem ite_iff {α : Type} {A B : Prop} [Decidable A] [Decidable B] {x y : α} (e : A ↔ B) : (if A then x else y) = (if B then x else y) := by
  by_cases q : B
  · rw [if_pos q, if_pos (e.2 q)]
  · rw [if_neg q, if_neg (fun z => q (e.1 z))]
theorem splitR17 (v : List ByteArray) (hv : v.length ≤ 400) (hb : ∀ s ∈ v, s.size ≤ 1100000) : Ev (fun k => sprref12_Split.f k v) ((splits v).map mk) := by
  have := splitR_loop v (by omega) (fun s hs => by have := hb s hs; omega) v 0 [] rfl (by simp) (by omega)
  rw [List.nil_append] at this
  exact this
theorem PV_loop (L : List (List UInt8)) (hL : L.length ≤ 500000000) (hb : ∀ p ∈ L, p.length ≤ 1100000) : ∀ (t : List (List UInt8)) (i : Nat) (acc : List ByteArray), L.drop i = t → acc.length ≤ i → i ≤ L.length → Ev (fun k => sprref14_ParseVary.l0 k (L.map mk) acc (i : Int)) (if t.any badP = true ∨ (t ≠ [] ∧ 64 < L.length) then (true, []) else (false, uniqL (acc ++ t.map lowP)))
  | [], i, acc, h, ha, hi => by
    have := drop_nil h
    refine Ev.step (fun _ => sprref14_ParseVary.l0.eq_2 ..) (Ev.neg (by rw [List.length_map]; omega) ?_)
    rw [if_neg (show ¬ (([] : List (List UInt8)).any badP = true ∨ (([] : List (List UInt8)) ≠ [] ∧ 64 < L.length)) by simp)]
    refine Ev.bnd (a := uniqL acc) (by unfold sprref_Unique.f; rw [if_pos (by omega)]) (Ev.tell ?_)
    rw [List.map_nil, List.append_nil]
  | p :: t, i, acc, h, ha, hi => by
    obtain ⟨a1, a2, a3⟩ := drop_cons h
    have hp := hb p (List.mem_of_getElem? a2)
    have hr : rdOf ByteArray.empty (L.map mk) (i : Int) = mk p := rdOf_of (by rw [List.getElem?_map, a2]; rfl)
    have hs : (mk p).size = p.length := by rw [size_B, B_mk]
    refine Ev.step (fun _ => sprref14_ParseVary.l0.eq_2 ..) (Ev.pos (by rw [List.length_map]; omega) (Ev.pos (by omega) ?_))
    rw [hr, wrap_id (x := (i : Int) + 1) (by omega) (by omega), cast_succ, toList_B, B_mk]
    have hn := NameR_ok (mk p) (by omega)
    have en : nm (mk p) = badP.nmL p := by unfold nm badP.nmL; rw [hs, B_mk]
    rw [en] at hn
    refine Ev.bind hn ?_
    cases hnm : badP.nmL p with
    | false =>
      have e : (p :: t).any badP = true := by rw [List.any_cons]; unfold badP; rw [hnm]; simp
      rw [if_pos (Or.inl e)]
      exact Ev.neg (by simp) (Ev.now _)
    | true =>
      refine Ev.pos rfl ?_
      by_cases h42 : p = [42]
      · have e : (p :: t).any badP = true := by rw [List.any_cons]; unfold badP; rw [decide_eq_true h42]; rfl
        rw [if_pos (Or.inl e)]
        exact Ev.pos h42 (Ev.now _)
      · refine Ev.neg h42 ?_
        by_cases h64 : 64 < L.length
        · rw [if_pos (Or.inr ⟨by simp, h64⟩)]
          exact Ev.pos (by rw [List.length_map]; omega) (Ev.now _)
        · have e : (p :: t).any badP = t.any badP := by rw [List.any_cons]; unfold badP; rw [hnm, decide_eq_false h42]; rfl
          have e2 : ((p :: t).any badP = true ∨ ((p :: t) ≠ [] ∧ 64 < L.length)) ↔ (t.any badP = true ∨ (t ≠ [] ∧ 64 < L.length)) := by rw [e]; simp [h64]
          have ih := PV_loop L hL hb t (i + 1) (acc ++ [lowP p]) a3 (by simp; omega) (by omega)
          rw [List.append_assoc] at ih
          rw [ite_iff e2]
          exact Ev.neg (by rw [List.length_map]; omega) (Ev.bnd (LowerR_ok (by omega)) (Ev.pos (by omega) ih))
theorem PV_ok (v : List ByteArray) (hv : v.length ≤ 400) (hb : ∀ s ∈ v, s.size ≤ 1100000) : Ev (fun k => sprref14_ParseVary.f k v) (ruleOf v) := by
  have h := PV_loop (splits v) (splits_count v hv hb) (splits_small v hb) (splits v) 0 [] rfl (by simp) (by omega)
  have e : ((splits v).any badP = true ∨ (splits v ≠ [] ∧ 64 < (splits v).length)) ↔ ((splits v).any badP = true ∨ 64 < (splits v).length) := by
    constructor
    · rintro (q | q)
      · exact .inl q
      · exact .inr q.2
    · rintro (q | q)
      · exact .inl q
      · exact .inr ⟨fun z => by rw [z] at q; simp at q, q⟩
  rw [ite_iff e, List.nil_append] at h
  unfold sprref14_ParseVary.f
  exact Ev.bind (splitR17 v hv hb) h
theorem AllRM {l : List S56} (h : LinesOk l) (n : ByteArray) (hn : n.size ≤ 100) : Ev (fun k => sprref12_All.f k l n) (allOf l n) := AllR_ok (by have := h.len; omega) h.okL (by omega)
theorem hasR_ok {l : List S56} (h : LinesOk l) (n : ByteArray) (hn : n.size ≤ 100) : Ev (fun k => sprref19_has.f k l n) (hasB l n) := by
  unfold sprref19_has.f
  exact Ev.bind (AllRM h n hn) (Ev.now _)
theorem usualR_ok (n : Int) : sprref19_Usual.f n = some (usualB n) := by
  unfold sprref19_Usual.f usualB
  (repeat' split) <;> simp_all
theorem rpR_ok (v : List ByteArray) (hv : v.length ≤ 400) (hb : ∀ s ∈ v, s.size ≤ 1100000) : Ev (fun k => rpR k v) (ctlOf v) := by
  have hS : Ev (fun k => sprref12_Split.f k v) ((splits v).map mk) := by
    have := splitR_loop v (by omega) (fun s hs => by have := hb s hs; omega) v 0 [] rfl (by simp) (by omega)
    rw [List.nil_append] at this
    exact this
  unfold rpR
  refine Ev.bind hS (Ev.bind (stepsR_ok (splits v) _ (fun p hp => by have := splits_small v hb p hp; omega)) ?_)
  exact Ev.now _
theorem ctlR_ok {l : List S56} (h : LinesOk l) : Ev (fun k => sprref19_control.f k l) (storedOf l).tup := by
  obtain ⟨a, b⟩ := h.all ccName (by show 1 ≤ 13; omega)
  have hR : Ev (fun k => sprref19_control.R k l) (storedOf l) := by
    unfold sprref19_control.R
    exact Ev.bind (AllRM h ccName (by decide)) (rpR_ok _ a b)
  exact Ev.bind hR (Ev.now _)
theorem ExplicitR_ok (sh : Bool) {l : List S56} (h : LinesOk l) : Ev (fun k => sprref19_Explicit.f k sh l) (expB sh l) := by
  have ha : Ev (fun k => sprref19_has.f k l (⟨#[69, 120, 112, 105, 114, 101, 115]⟩ : ByteArray)) (hasB l nExp) := hasR_ok h nExp (by decide)
  unfold sprref19_Explicit.f expB
  refine Ev.bind (ctlR_ok h) ?_
  cases sh
  · refine Ev.neg (by simp) ?_
    cases e : (storedOf l).h0
    · exact Ev.neg (by show ¬ (storedOf l).h0 = true; rw [e]; simp) (Ev.bind ha (Ev.tell (by simp)))
    · exact Ev.pos e (Ev.tell (by simp))
  · refine Ev.pos rfl ?_
    cases e1 : (storedOf l).h1
    · refine Ev.neg (by show ¬ (storedOf l).h1 = true; rw [e1]; simp) ?_
      cases e : (storedOf l).h0
      · exact Ev.neg (by show ¬ (storedOf l).h0 = true; rw [e]; simp) (Ev.bind ha (Ev.tell (by simp)))
      · exact Ev.pos e (Ev.tell (by simp))
    · exact Ev.pos e1 (Ev.tell (by simp))
theorem PlainR_loop (a m c : ByteArray) {l : List S56} (h : LinesOk l) (L : List ByteArray) (hL : ∀ n ∈ L, n.size ≤ 100) (hl : L.length ≤ 100) : ∀ (t : List ByteArray) (i : Nat), L.drop i = t → Ev (fun k => sprref19_Plain.l0 k L (i : Int) a m c l) ((t.all fun n => !hasB l n) && decide (B m = [71, 69, 84]))
  | [], i, ht => by
    have := drop_nil ht
    refine Ev.step (fun _ => sprref19_Plain.l0.eq_2 ..) (Ev.neg (by omega) (Ev.tell ?_))
    rw [toList_B, List.all_nil, Bool.true_and, Bool.eq_iff_iff]; simp
  | n :: t, i, ht => by
    obtain ⟨a1, a2, a3⟩ := drop_cons ht
    have hn := hL n (List.mem_of_getElem? a2)
    have ih := PlainR_loop a m c h L hL hl t (i + 1) a3
    refine Ev.step (fun _ => sprref19_Plain.l0.eq_2 ..) (Ev.pos (by omega) (Ev.pos (by omega) ?_))
    rw [rdOf_of a2, wrap_id (x := (i : Int) + 1) (by omega) (by omega), cast_succ]
    refine Ev.bind (hasR_ok h n hn) ?_
    rw [List.all_cons]
    cases hasB l n
    · exact Ev.neg (by simp) (by simpa using ih)
    · exact Ev.pos rfl (Ev.tell (by simp))
theorem PlainR_ok (a m c : ByteArray) {l : List S56} (h : LinesOk l) : Ev (fun k => sprref19_Plain.f k a m c l) (plainB m l) :=
  PlainR_loop a m c h plainNames (fun n hn => (plain_sizes n hn).2) (by decide) plainNames 0 rfl
theorem store_same (sh : Bool) (m : ByteArray) (ql : List S56) (st : Int) (rl : List S56) : storeR sh (plainB m ql) st (storedOf ql).b0 (storedOf rl).b0 (storedOf rl).b7 (usualB st) (storedOf rl).b2 (hasB ql nAuth) (storedOf rl).b3 (storedOf rl).b4 (storedOf rl).h1 (starB rl) (expB sh rl) = storeI sh m ql st rl := by
  unfold storeR storeI kindB noB othersI lastI authB
  generalize plainB m ql = p
  generalize (storedOf ql).b0 = a0
  generalize hasB ql nAuth = au
  generalize starB rl = s
  generalize expB sh rl = ex
  generalize usualB st = us
  obtain ⟨c0, c1, c2, c3, c4, c5, c6, c7, c8, c9, c10, h0, n0, h1, n1, h2, n2, h3, n3, h4, n4⟩ := storedOf rl
  dsimp only
  cases p
  · rfl
  have tf : ¬ (true = false) := by simp
  rw [if_neg tf, if_neg tf]
  by_cases s1 : st < 200
  · rw [if_pos s1, if_pos (by rw [decide_eq_true s1]; rfl)]
  by_cases s2 : st = 206
  · rw [if_neg s1, if_pos s2, if_pos (by rw [decide_eq_true s2, Bool.true_or, Bool.or_true])]
  by_cases s3 : st = 304
  · rw [if_neg s1, if_neg s2, if_pos s3, if_pos (by rw [decide_eq_true s3, Bool.or_true, Bool.or_true])]
  have kf : ¬ ((decide (st < 200) || (decide (st = 206) || decide (st = 304))) = true) := by rw [decide_eq_false s1, decide_eq_false s2, decide_eq_false s3]; simp
  rw [if_neg s1, if_neg s2, if_neg s3, if_neg kf]
  generalize (a0 || (c0 || (c7 && !us))) = x
  generalize (au && (!c3 && (!c4 && !h1))) = q
  cases x <;> cases sh <;> cases c2 <;> cases q <;> rfl
theorem StoreR_ok (sh : Bool) (a m c : ByteArray) (st : Int) {ql rl : List S56} (body : List Int) (hq : LinesOk ql) (h : LinesOk rl) : Ev (fun k => sprref19_Store.f k sh a m c ql st rl body) (storeI sh m ql st rl) := by
  obtain ⟨v1, v2⟩ := h.all nVary (by decide)
  unfold sprref19_Store.f
  refine Ev.bind (ctlR_ok hq) (Ev.bind (ctlR_ok h) (Ev.bind (PlainR_ok a m c hq) (Ev.bnd (usualR_ok st) (Ev.bind (hasR_ok hq nAuth (by decide)) (Ev.bind (AllRM h nVary (by decide)) (Ev.bind (PV_ok _ v1 v2) (Ev.bind (ExplicitR_ok sh h) (Ev.tell ?_))))))))
  exact store_same sh m ql st rl
/-- A byte of a value. -/
def vch (c : UInt8) : Bool := !(decide ((c.toNat : Int) < 32) && !decide ((c.toNat : Int) = 9)) && !decide ((c.toNat : Int) = 127)
def vl (s : ByteArray) : Bool := (B s).all vch && (decide ((s.size : Int) ≤ 4000) && decide (tr (B s) = B s))
theorem val_end {s : ByteArray} {g : Nat → Option ByteArray} (h : s.size ≤ 4000 → Ev g (mk (tr (B s)))) : Ev (fun k => if (s.size : Int) ≤ 4000 then ((g k).bind fun t => (some (t.toList == s.toList))) else (some false)) (decide ((s.size : Int) ≤ 4000) && decide (tr (B s) = B s)) := by
  by_cases h1 : (s.size : Int) ≤ 4000
  · refine Ev.pos h1 (Ev.bind (h (by omega)) (Ev.konst ?_))
    rw [decide_eq_true h1, Bool.true_and, toList_B, toList_B, B_mk]
    congr 1
    rw [Bool.eq_iff_iff]; simp
  · refine Ev.neg h1 ?_
    rw [decide_eq_false h1]; exact Ev.now _
theorem val_ch {c : UInt8} {X : Nat → Option Bool} {r0 : Bool} {t : List UInt8} {e : Bool} (h : Ev X (t.all vch && e)) : Ev (fun k => if (c.toNat : Int) < 32 then (if (c.toNat : Int) = 9 then (if (c.toNat : Int) = 127 then (some false) else X k) else (some false)) else (if (c.toNat : Int) = 127 then (some false) else X k)) ((c :: t).all vch && e) := by
  rw [List.all_cons]
  by_cases h1 : (c.toNat : Int) < 32
  · refine Ev.pos h1 ?_
    by_cases h2 : (c.toNat : Int) = 9
    · refine Ev.pos h2 (Ev.neg (by omega) ?_)
      have : vch c = true := by unfold vch; rw [decide_eq_true h2, decide_eq_false (show ¬ (c.toNat : Int) = 127 by omega)]; simp
      rw [this, Bool.true_and]; exact h
    · refine Ev.neg h2 ?_
      have : vch c = false := by unfold vch; rw [decide_eq_true h1, decide_eq_false h2]; simp
      rw [this]; exact Ev.now _
  · refine Ev.neg h1 ?_
    by_cases h2 : (c.toNat : Int) = 127
    · refine Ev.pos h2 ?_
      have : vch c = false := by unfold vch; rw [decide_eq_true h2]; simp
      rw [this]; exact Ev.now _
    · refine Ev.neg h2 ?_
      have : vch c = true := by unfold vch; rw [decide_eq_false h1, decide_eq_false h2]; simp
      rw [this, Bool.true_and]; exact h
theorem Value_loop (s : ByteArray) (hs : s.size ≤ 9223372036854775807) : ∀ (t : List UInt8) (i : Nat), (B s).drop i = t → Ev (fun k => head_Value.l0 k s (s.size : Int) (i : Int)) (t.all vch && (decide ((s.size : Int) ≤ 4000) && decide (tr (B s) = B s)))
  | [], i, ht => by
    have := end_drop ht
    refine Ev.step (fun _ => head_Value.l0.eq_2 ..) (Ev.neg (by omega) ?_)
    exact val_end (g := fun _ => head_Trim.f s) (fun h => Ev.konst (Trim_ok s (by omega)))
  | c :: t, i, ht => by
    obtain ⟨a1, a2, a3⟩ := bt_drop ht
    refine Ev.step (fun _ => head_Value.l0.eq_2 ..) (Ev.pos (by omega) (Ev.pos (by omega) (Ev.pos (by omega) ?_)))
    rw [a1, wrap_id (by omega) (by omega), cast_succ]
    exact val_ch (r0 := true) (Value_loop s hs t (i + 1) a3)
theorem Value_ok (s : ByteArray) (hs : s.size ≤ 9223372036854775807) : Ev (fun k => head_Value.f k s) (vl s) := Value_loop s hs (B s) 0 rfl
theorem ValueR_loop (s : ByteArray) (hs : s.size ≤ 9223372036854775807) : ∀ (t : List UInt8) (i : Nat), (B s).drop i = t → Ev (fun k => sprref12_Value.l0 k s (i : Int)) (t.all vch && (decide ((s.size : Int) ≤ 4000) && decide (tr (B s) = B s)))
  | [], i, ht => by
    have := end_drop ht
    refine Ev.step (fun _ => sprref12_Value.l0.eq_2 ..) (Ev.neg (by omega) ?_)
    exact val_end (fun h => TrimR_ok s (by omega))
  | c :: t, i, ht => by
    obtain ⟨a1, a2, a3⟩ := bt_drop ht
    refine Ev.step (fun _ => sprref12_Value.l0.eq_2 ..) (Ev.pos (by omega) (Ev.pos (by omega) ?_))
    rw [a1, wrap_id (by omega) (by omega), cast_succ]
    exact val_ch (r0 := true) (ValueR_loop s hs t (i + 1) a3)
theorem ValueR_ok (s : ByteArray) (hs : s.size ≤ 9223372036854775807) : Ev (fun k => sprref12_Value.f k s) (vl s) := ValueR_loop s hs (B s) 0 rfl
theorem May_loop (l : List S56) (hl : l.length ≤ 1000000) (ho : okL l) : ∀ (t : List S56) (i : Nat), l.drop i = t → Ev (fun k => head_May.l0 k l l (l.length : Int) (i : Int)) ((t.all fun x => nm x.f0 && vl x.f1) && decide ((l.length : Int) ≤ 64))
  | [], i, ht => by
    have := drop_nil ht
    refine Ev.step (fun _ => head_May.l0.eq_2 ..) (Ev.neg (by omega) ?_)
    rw [List.all_nil, Bool.true_and]; exact Ev.now _
  | x :: t, i, ht => by
    obtain ⟨a1, a2, a3⟩ := drop_cons ht
    have hx := ho x (List.mem_of_getElem? a2)
    have r1 : rd_T56 l (i : Int) = x := by unfold rd_T56; rw [Int.toNat_natCast, List.getD_eq_getElem?_getD, a2]; rfl
    refine Ev.step (fun _ => head_May.l0.eq_2 ..) (Ev.pos (by omega) (Ev.pos (by omega) (Ev.pos (by omega) ?_)))
    rw [r1, wrap_id (by omega) (by omega), cast_succ, List.all_cons]
    refine Ev.bind (Name_ok x.f0 hx.1) ?_
    cases hn : nm x.f0 with
    | false => exact Ev.neg (by simp) (Ev.now _)
    | true =>
      refine Ev.pos rfl (Ev.bind (Value_ok x.f1 hx.2) ?_)
      cases hv : vl x.f1 with
      | false => exact Ev.neg (by simp) (Ev.now _)
      | true => exact Ev.pos rfl (May_loop l hl ho t (i + 1) a3)
theorem MayR_loop (l : List S56) (hl : l.length ≤ 1000000) (ho : okL l) : ∀ (t : List S56) (i : Nat), l.drop i = t → Ev (fun k => sprref12_May.l0 k l (i : Int)) ((t.all fun x => nm x.f0 && vl x.f1) && decide ((l.length : Int) ≤ 64))
  | [], i, ht => by
    have := drop_nil ht
    refine Ev.step (fun _ => sprref12_May.l0.eq_2 ..) (Ev.neg (by omega) ?_)
    rw [List.all_nil, Bool.true_and]; exact Ev.now _
  | x :: t, i, ht => by
    obtain ⟨a1, a2, a3⟩ := drop_cons ht
    have hx := ho x (List.mem_of_getElem? a2)
    have r1 : rd_T56 l (i : Int) = x := by unfold rd_T56; rw [Int.toNat_natCast, List.getD_eq_getElem?_getD, a2]; rfl
    refine Ev.step (fun _ => sprref12_May.l0.eq_2 ..) (Ev.pos (by omega) (Ev.pos (by omega) ?_))
    rw [r1, wrap_id (by omega) (by omega), cast_succ, List.all_cons]
    refine Ev.bind (NameR_ok x.f0 hx.1) ?_
    cases hn : nm x.f0 with
    | false => exact Ev.neg (by simp) (Ev.now _)
    | true =>
      refine Ev.pos rfl (Ev.bind (ValueR_ok x.f1 hx.2) ?_)
      cases hv : vl x.f1 with
      | false => exact Ev.neg (by simp) (Ev.now _)
      | true => exact Ev.pos rfl (MayR_loop l hl ho t (i + 1) a3)
def reqB (a m c : ByteArray) (l : List S56) : Bool := nm m && (((l.all fun x => nm x.f0 && vl x.f1) && decide ((l.length : Int) ≤ 64)) && (decide ((a.size : Int) ≤ 4000) && decide ((c.size : Int) ≤ 4000)))
theorem Request_ok (a m c : ByteArray) {l : List S56} (h : LinesOk l) (hm : m.size ≤ 9223372036854775807) (hl : l.length ≤ 80) : Ev (fun k => may_Request.f k a m c l) (reqB a m c l) := by
  unfold may_Request.f reqB
  have h2 : Ev (fun k => head_May.f k l) _ := May_loop l (by omega) h.okL l 0 rfl
  refine Ev.bind (Name_ok m hm) ?_
  cases nm m
  · exact Ev.neg (by simp) (Ev.tell (by simp))
  · refine Ev.pos rfl (Ev.bind h2 ?_)
    cases ((l.all fun x => nm x.f0 && vl x.f1) && decide ((l.length : Int) ≤ 64))
    · exact Ev.neg (by simp) (Ev.tell (by simp))
    · refine Ev.pos rfl ?_
      by_cases g : (a.size : Int) ≤ 4000
      · exact Ev.pos g (Ev.tell (by simp [g]))
      · exact Ev.neg g (Ev.tell (by simp [g]))
theorem RequestR_ok (a m c : ByteArray) {l : List S56} (h : LinesOk l) (hm : m.size ≤ 9223372036854775807) (hl : l.length ≤ 80) : Ev (fun k => sprref19_MayRequest.f k a m c l) (reqB a m c l) := by
  unfold sprref19_MayRequest.f reqB
  have h2 : Ev (fun k => sprref12_May.f k l) _ := MayR_loop l (by omega) h.okL l 0 rfl
  refine Ev.bind (NameR_ok m hm) ?_
  cases nm m
  · exact Ev.neg (by simp) (Ev.tell (by simp))
  · refine Ev.pos rfl (Ev.bind h2 ?_)
    cases ((l.all fun x => nm x.f0 && vl x.f1) && decide ((l.length : Int) ≤ 64))
    · exact Ev.neg (by simp) (Ev.tell (by simp))
    · refine Ev.pos rfl ?_
      by_cases g : (a.size : Int) ≤ 4000
      · exact Ev.pos g (Ev.tell (by simp [g]))
      · exact Ev.neg g (Ev.tell (by simp [g]))
def respB (st : Int) (l : List S56) (body : List Int) : Bool := if st = 0 then decide (l.length + body.length = 0) else decide (st ≥ 100) && (decide (st ≤ 599) && (((l.all fun x => nm x.f0 && vl x.f1) && decide ((l.length : Int) ≤ 64)) && decide ((body.length : Int) ≤ 20000)))
theorem resp_rest {g : Nat → Option Bool} (st : Int) (l : List S56) (body : List Int) (h0 : ¬ st = 0) (h : Ev g ((l.all fun x => nm x.f0 && vl x.f1) && decide ((l.length : Int) ≤ 64))) : Ev (fun k => if st ≥ 100 then (if st ≤ 599 then ((g k).bind fun t => (if t = true then (some (decide ((body.length : Int) ≤ 20000))) else (some false))) else (some false)) else (some false)) (respB st l body) := by
  unfold respB
  rw [if_neg h0]
  by_cases g1 : st ≥ 100
  · refine Ev.pos g1 ?_
    by_cases g2 : st ≤ 599
    · refine Ev.pos g2 (Ev.bind h ?_)
      cases ((l.all fun x => nm x.f0 && vl x.f1) && decide ((l.length : Int) ≤ 64))
      · exact Ev.neg (by simp) (Ev.tell (by simp))
      · exact Ev.pos rfl (Ev.tell (by simp [g1, g2]))
    · exact Ev.neg g2 (Ev.tell (by simp [g2]))
  · exact Ev.neg g1 (Ev.tell (by simp [g1]))
theorem Response_ok (st : Int) (body : List Int) {l : List S56} (h : LinesOk l) (hl : l.length ≤ 80) : Ev (fun k => may_Response.f k st l body) (respB st l body) := by
  unfold may_Response.f
  have h2 : Ev (fun k => head_May.f k l) _ := May_loop l (by omega) h.okL l 0 rfl
  by_cases h0 : st = 0
  · unfold respB
    rw [if_pos h0]
    refine Ev.pos h0 ?_
    by_cases g : (l.length : Int) = 0
    · refine Ev.pos g (Ev.tell ?_)
      rw [Bool.eq_iff_iff, beq_iff_eq, decide_eq_true_iff]; omega
    · refine Ev.neg g (Ev.tell ?_)
      rw [decide_eq_false (by omega)]
  · exact Ev.neg h0 (resp_rest st l body h0 h2)
theorem ResponseR_ok (st : Int) (body : List Int) {l : List S56} (h : LinesOk l) (hl : l.length ≤ 80) (hb' : body.length ≤ 25000) : Ev (fun k => sprref19_MayResponse.f k st l body) (respB st l body) := by
  unfold sprref19_MayResponse.f
  have h2 : Ev (fun k => sprref12_May.f k l) _ := MayR_loop l (by omega) h.okL l 0 rfl
  by_cases h0 : st = 0
  · unfold respB
    rw [if_pos h0, wrap_id (by omega) (by omega)]
    refine Ev.pos h0 (Ev.tell ?_)
    rw [Bool.eq_iff_iff, beq_iff_eq, decide_eq_true_iff]; omega
  · exact Ev.neg h0 (resp_rest st l body h0 h2)
theorem unsafe_ok (m : ByteArray) : ∃ b, may_Unsafe.f m = some b ∧ sprref19_Unsafe.f m = some b := by
  unfold may_Unsafe.f sprref19_Unsafe.f
  by_cases g1 : m.toList = ([71, 69, 84] : List UInt8)
  · exact ⟨false, by rw [if_pos g1], by rw [if_pos g1]⟩
  by_cases g2 : m.toList = ([72, 69, 65, 68] : List UInt8)
  · exact ⟨false, by rw [if_neg g1, if_pos g2], by rw [if_neg g1, if_pos g2]⟩
  by_cases g3 : m.toList = ([79, 80, 84, 73, 79, 78, 83] : List UInt8)
  · exact ⟨false, by rw [if_neg g1, if_neg g2, if_pos g3], by rw [if_neg g1, if_neg g2, if_pos g3]⟩
  by_cases g4 : m.toList = ([84, 82, 65, 67, 69] : List UInt8)
  · exact ⟨false, by rw [if_neg g1, if_neg g2, if_neg g3, if_pos g4], by rw [if_neg g1, if_neg g2, if_neg g3, g4]; rfl⟩
  · exact ⟨true, by rw [if_neg g1, if_neg g2, if_neg g3, if_neg g4], by rw [if_neg g1, if_neg g2, if_neg g3, bne_iff_ne.2 g4]⟩
theorem MayAsks (sh : Bool) (a m c : ByteArray) (ql : List S56) (st : Int) (rl : List S56) (body : List Int) (me : ByteArray) (g1 : a.size ≤ maxLen ∧ m.size ≤ maxLen ∧ c.size ≤ maxLen ∧ (ql.length ≤ maxLen ∧ ∀ x ∈ ql, x.f0.size ≤ maxLen ∧ x.f1.size ≤ maxLen)) (g2 : (Lit.int .i64 st).wf = true ∧ (rl.length ≤ maxLen ∧ ∀ x ∈ rl, x.f0.size ≤ maxLen ∧ x.f1.size ≤ maxLen) ∧ (body.length ≤ maxLen ∧ ∀ x ∈ body, (Lit.int .u8 x).wf = true)) (g3 : me.size ≤ maxLen) : ∃ k, sprlaw20_MayAsks.f k sh a m c ql st rl body me = some true := by
  suffices hE : Ev (fun k => sprlaw20_MayAsks.f k sh a m c ql st rl body me) true by
    obtain ⟨k, hk⟩ := hE
    exact ⟨k, hk k (Nat.le_refl _)⟩
  have big : Ev (fun k => sprlaw20_MayAsks.j0 k sh me true a m c ql st rl body) true := Ev.step (fun _ => sprlaw20_MayAsks.j0.eq_2 ..) (Ev.pos rfl (Ev.bind first20_ok (Ev.now _)))
  unfold sprlaw20_MayAsks.f
  refine Ev.bind first20_ok (Ev.pos rfl ?_)
  obtain ⟨b0, hb0, hf0⟩ := FewReq_ok a m c ql
  obtain ⟨b1, hb1, hf1⟩ := FewResp2_ok st rl body
  refine Ev.bind hb0 ?_
  cases b0 with
  | false => exact Ev.neg (by simp) big
  | true =>
  refine Ev.pos rfl (Ev.bind hb1 ?_)
  cases b1 with
  | false => exact Ev.neg (by simp) big
  | true =>
  refine Ev.pos rfl ?_
  by_cases hs : (me.size : Int) > 400
  · rw [decide_eq_true hs]; exact big
  rw [decide_eq_false hs]
  have f0 := hf0 rfl
  have f12 := hf1 rfl
  have f1 := f12.1
  have hq : LinesOk ql := LinesOk.of g1.2.2.2 f0.2
  have hr : LinesOk rl := LinesOk.of g2.2.1 f1
  have e : ∀ b : Bool, (b == b) = true := fun b => by cases b <;> rfl
  refine Ev.step (fun _ => sprlaw20_MayAsks.j0.eq_2 ..) (Ev.neg (by simp) (Ev.bind first20_ok (Ev.pos rfl ?_)))
  refine Ev.bind (Request_ok a m c hq (by omega) f0.2.1) (Ev.bind (RequestR_ok a m c hq (by omega) f0.2.1) (Ev.pos (e _) ?_))
  refine Ev.bind (Response_ok st body hr f1.1) (Ev.bind (ResponseR_ok st body hr f1.1 f12.2) (Ev.pos (e _) ?_))
  obtain ⟨u, u1, u2⟩ := unsafe_ok me
  refine Ev.bnd u1 (Ev.bnd u2 (Ev.pos (e _) ?_))
  refine Ev.bind (PlainM_ok a m c hq) (Ev.bind (PlainR_ok a m c hq) (Ev.pos (e _) ?_))
  exact Ev.bind (Store_ok sh a m c st body hq hr) (Ev.bind (StoreR_ok sh a m c st body hq hr) (Ev.tell (by simp)))

end Go.Proofs.YtbnlglfddglceaaGreatDoor.Pure
