/-
The law EtagReads: any text as a tag, any tag as a text, any values as tags, and two tags compared, by the program and by the reference, are the same; the values' copy stays. Condition: the statement's second form (what is read is of bulk at most 1048576).
-/
import Derived.Test.YtalmcjdlfppkdaaDoorQ12
set_option linter.unusedVariables false
set_option linter.unusedSimpArgs false
namespace Go.Proofs.YtalmcjdlfppkdaaDoor.Pure
open Go.RowKit Go.Proofs.YtalmcjdlfppkdaaDoor.Q Go.Proofs.YtalmcjdlfppkdaaDoorW.PrintWords Go.Proofs.YtalmcjdlfppkdaaDoorW.PrintLast
theorem wrap_id {x : Int} (h0 : -9223372036854775808 ≤ x) (h1 : x ≤ 9223372036854775807) : wrap64 x = x := by unfold wrap64; omega
theorem Ev.succ {α : Type} {g : Nat → Option α} {r : α} (h : Ev (fun k => g (k + 1)) r) : Ev g r := Ev.step (fun _ => rfl) h
theorem Ev.konst {α : Type} {o : Option α} {r : α} (h : o = some r) : Ev (fun _ => o) r := ⟨0, fun _ _ => h⟩
theorem Ev.at {α : Type} {g : Nat → Option α} {r : α} (K : Nat) (h : ∀ k, g (k + K) = some r) : Ev g r := ⟨K, fun n hn => by
  obtain ⟨m, rfl⟩ : ∃ m, n = m + K := ⟨n - K, by omega⟩
  exact h m⟩
theorem drop_cons {α : Type} {l : List α} {i : Nat} {c : α} {t : List α} (h : l.drop i = c :: t) : i < l.length ∧ l[i]? = some c ∧ l.drop (i + 1) = t := by
  have h1 : (l.drop i)[0]? = some c := by rw [h]; rfl
  rw [List.getElem?_drop] at h1
  simp only [Nat.add_zero] at h1
  refine ⟨(List.getElem?_eq_some_iff.1 h1).1, h1, ?_⟩
  rw [← List.drop_drop, h]; rfl
theorem drop_nil {α : Type} {l : List α} {i : Nat} (h : l.drop i = []) : l.length ≤ i := by
  simpa using h
theorem rd_of {l : List Int} {i : Nat} {c : Int} (h : l[i]? = some c) : rd l (i : Int) = c := by
  unfold rd; rw [Int.toNat_natCast, List.getD_eq_getElem?_getD, h]; rfl
theorem rdOf_of {α : Type} {d : α} {l : List α} {i : Nat} {c : α} (h : l[i]? = some c) : rdOf d l (i : Int) = c := by
  unfold rdOf; rw [Int.toNat_natCast, List.getD_eq_getElem?_getD, h]; rfl
theorem cast_succ (i : Nat) : ((i : Int) + 1) = ((i + 1 : Nat) : Int) := by omega
theorem Ev.pos {α : Type} {c : Prop} [Decidable c] {A B : Nat → Option α} {r : α} (h : c) (k : Ev A r) : Ev (fun n => if c then A n else B n) r := Ev.congr (fun _ => if_pos h) k
theorem Ev.neg {α : Type} {c : Prop} [Decidable c] {A B : Nat → Option α} {r : α} (h : ¬ c) (k : Ev B r) : Ev (fun n => if c then A n else B n) r := Ev.congr (fun _ => if_neg h) k
theorem Ev.bnd {α β : Type} {o : Option β} {a : β} {f : Nat → β → Option α} {r : α} (h : o = some a) (k : Ev (fun n => f n a) r) : Ev (fun n => o.bind (f n)) r := by
  subst h; exact k
/-- A text's bytes. -/
def B (s : ByteArray) : List UInt8 := s.data.toList
def mk (l : List UInt8) : ByteArray := ⟨l.toArray⟩
theorem B_mk (l : List UInt8) : B (mk l) = l := rfl
theorem mk_B (s : ByteArray) : mk (B s) = s := rfl
theorem B_inj {s t : ByteArray} (h : B s = B t) : s = t := by rw [← mk_B s, ← mk_B t, h]
theorem toList_B (s : ByteArray) : s.toList = B s := Lib.toList_data s
theorem size_B (s : ByteArray) : s.size = (B s).length := Lib.size_eq s
theorem B_extract (s : ByteArray) (a b : Nat) : B (s.extract a b) = ((B s).drop a).take (b - a) := Lib.extract_data s a b
theorem B_append (s t : ByteArray) : B (s ++ t) = B s ++ B t := by
  unfold B
  rw [ByteArray.data_append, Array.toList_append]
theorem B_to (s : ByteArray) (n : Nat) : B (s.extract 0 n) = (B s).take n := by rw [B_extract, List.drop_zero, Nat.sub_zero]
theorem B_from (s : ByteArray) (n : Nat) : B (s.extract n s.size) = (B s).drop n := by
  rw [B_extract, size_B]
  exact List.take_of_length_le (by rw [List.length_drop]; omega)
theorem bt_of {s : ByteArray} {i : Nat} {c : UInt8} (h : (B s)[i]? = some c) : bt s (i : Int) = (c.toNat : Int) := by
  unfold bt
  have hi : i < s.size := by rw [size_B]; exact (List.getElem?_eq_some_iff.1 h).1
  rw [Int.toNat_natCast, dif_pos hi]
  have : (s[i]'hi) = c := by
    have h1 : (B s)[i]? = some (s[i]'hi) := by
      unfold B
      rw [Array.getElem?_toList]
      exact Array.getElem?_eq_getElem _
    rw [h1] at h
    exact Option.some.inj h
  rw [this]
/-- The byte that a suffix begins with. -/
theorem bt_drop {s : ByteArray} {i : Nat} {c : UInt8} {t : List UInt8} (h : (B s).drop i = c :: t) : bt s (i : Int) = (c.toNat : Int) ∧ i < s.size ∧ (B s).drop (i + 1) = t := by
  obtain ⟨h1, h2, h3⟩ := drop_cons h
  exact ⟨bt_of h2, by rw [size_B]; exact h1, h3⟩
theorem end_drop {s : ByteArray} {i : Nat} (h : (B s).drop i = []) : s.size ≤ i := by rw [size_B]; exact drop_nil h
theorem u8_eq (c : UInt8) (n : Nat) (h : n < 256) : ((c.toNat : Int) = (n : Int)) ↔ c = UInt8.ofNat n := by
  constructor
  · intro e
    have e' : c.toNat = n := by omega
    rw [← e']; exact (UInt8.ofNat_toNat).symm
  · intro e
    rw [e, UInt8.toNat_ofNat']
    have : n % 2 ^ 8 = n := Nat.mod_eq_of_lt h
    omega
theorem u8_lt (c : UInt8) : (c.toNat : Int) < 256 ∧ 0 ≤ (c.toNat : Int) := by
  have := UInt8.toNat_lt c
  omega
def blank (c : UInt8) : Bool := ([32, 9] : List UInt8).contains c
/-- Blanks and tabs at both ends away. -/
def tr (l : List UInt8) : List UInt8 := Lib.trimS l [32, 9]
def rdw (p : UInt8 → Bool) (l : List UInt8) : List UInt8 := (l.reverse.dropWhile p).reverse
theorem rdw_cons (p : UInt8 → Bool) (x : UInt8) (t : List UInt8) : rdw p (x :: t) = if rdw p t = [] then (if p x = true then [] else [x]) else x :: rdw p t := by
  unfold rdw
  rw [List.reverse_cons, List.dropWhile_append]
  by_cases h : (t.reverse.dropWhile p) = []
  · rw [h]
    by_cases hx : p x = true <;> simp [hx, List.dropWhile]
  · have h' : ¬ (t.reverse.dropWhile p).reverse = [] := fun e => h (List.reverse_eq_nil_iff.1 e)
    rw [if_neg h', if_neg (by simpa using h)]
    simp
theorem rdw_comm (p : UInt8 → Bool) : ∀ l : List UInt8, (rdw p l).dropWhile p = rdw p (l.dropWhile p)
  | [] => rfl
  | x :: t => by
    have ih := rdw_comm p t
    by_cases hx : p x = true
    · rw [List.dropWhile_cons, if_pos hx, ← ih, rdw_cons]
      by_cases h : rdw p t = []
      · rw [if_pos h, if_pos hx, h]
      · rw [if_neg h, List.dropWhile_cons, if_pos hx]
    · rw [List.dropWhile_cons, if_neg hx, rdw_cons]
      by_cases h : rdw p t = []
      · rw [if_pos h, if_neg hx, List.dropWhile_cons, if_neg hx]
      · rw [if_neg h, List.dropWhile_cons, if_neg hx]
theorem tr_eq (l : List UInt8) : tr l = rdw blank (l.dropWhile blank) := by
  rw [← rdw_comm]; rfl
theorem tr_nil : tr [] = [] := rfl
theorem length_dropWhile_le (p : UInt8 → Bool) : ∀ l : List UInt8, (l.dropWhile p).length ≤ l.length
  | [] => Nat.le_refl _
  | x :: t => by
    rw [List.dropWhile_cons]
    have := length_dropWhile_le p t
    split <;> simp only [List.length_cons] <;> omega
theorem tr_len (l : List UInt8) : (tr l).length ≤ l.length := by
  rw [tr_eq]
  unfold rdw
  have h1 := length_dropWhile_le blank (l.dropWhile blank).reverse
  have h2 := length_dropWhile_le blank l
  simp only [List.length_reverse] at h1 ⊢
  omega
/-- Nothing blank at the ends: it stays. -/
theorem dropWhile_idem (p : UInt8 → Bool) : ∀ l : List UInt8, (l.dropWhile p).dropWhile p = l.dropWhile p
  | [] => rfl
  | x :: t => by
    by_cases hx : p x = true
    · rw [List.dropWhile_cons, if_pos hx]; exact dropWhile_idem p t
    · rw [List.dropWhile_cons, if_neg hx, List.dropWhile_cons, if_neg hx]
theorem tr_tr (l : List UInt8) : tr (tr l) = tr l := by
  have e : ∀ m, tr m = (rdw blank m).dropWhile blank := fun m => by rw [tr_eq, rdw_comm]
  have r2 : ∀ m, rdw blank (rdw blank m) = rdw blank m := fun m => by unfold rdw; rw [List.reverse_reverse, dropWhile_idem]
  rw [e (tr l), tr_eq l, r2, rdw_comm, dropWhile_idem]
def tagByte (c : UInt8) : Bool := !(decide (c.toNat < 33) || c == 34 || c == 127)
/-- The tag that a text without the sign of weakness is. -/
def tag0 (l : List UInt8) : Option (List UInt8) :=
  match l with
  | [] => none
  | c :: t => if c = 34 ∧ t ≠ [] ∧ t.getLast? = some 34 ∧ t.dropLast.all tagByte = true then some t.dropLast else none
def tagW (l : List UInt8) : Bool := l.take 2 == [87, 47]
/-- The tag that a text is. -/
def tagOf (l : List UInt8) : Bool × List UInt8 × Bool :=
  if l.length > 4000 then (false, [], false)
  else match tag0 (if tagW l = true then l.drop 2 else l) with
    | some m => (tagW l, m, true)
    | none => (false, [], false)
def tagR (r : Bool × List UInt8 × Bool) : Bool × ByteArray × Bool := (r.1, mk r.2.1, r.2.2)
theorem tag0_short (l : List UInt8) (h : l.length < 2) : tag0 l = none := by
  match l, h with
  | [], _ => rfl
  | [c], _ => simp [tag0]
theorem tag0_cons (c : UInt8) (t : List UInt8) : tag0 (c :: t) = if c = 34 ∧ t ≠ [] ∧ t.getLast? = some 34 ∧ t.dropLast.all tagByte = true then some t.dropLast else none := rfl
theorem tagW_short {l : List UInt8} (h : l.length < 2) : tagW l = false := by
  unfold tagW
  rw [List.take_of_length_le (by omega)]
  match l, h with
  | [], _ => rfl
  | [c], _ => simp
/-- The tags of pieces. -/
def tgs : List (List UInt8) → Option (List (Bool × List UInt8))
  | [] => some []
  | x :: t => if (tagOf x).2.2 = true then (tgs t).map (fun m => ((tagOf x).1, (tagOf x).2.1) :: m) else none
theorem tgs_len : ∀ (l : List (List UInt8)) (m : List (Bool × List UInt8)), tgs l = some m → m.length = l.length
  | [], m, h => by simp [tgs] at h; subst h; rfl
  | x :: t, m, h => by
    rw [tgs] at h
    split at h
    · obtain ⟨m', h1, h2⟩ := Option.map_eq_some_iff.1 h
      subst h2
      have := tgs_len t m' h1
      simp [this]
    · cases h
def star (l : List (List UInt8)) : Bool := decide (l = [[42]])
/-- What a list of values is: its tags, whether it is the star, whether it is one. -/
def tagsOf {α : Type} (f : Bool × List UInt8 → α) (l : List (List UInt8)) : List α × Bool × Bool :=
  if star l = true then ([], true, true) else match tgs l with
    | some m => (m.map f, false, decide (((m.map f).length : Int) > 0))
    | none => ([], false, false)
def prt (w : Bool) (m : List UInt8) : List UInt8 := (if w = true then [87, 47] else []) ++ (34 :: m ++ [34])
def prtR (w : Bool) (m : List UInt8) : ByteArray × Bool := if (tagOf (prt w m)).2.2 = true then (mk (prt w m), true) else (mk [], false)
theorem star_head (v : List (List UInt8)) (d : ByteArray) (w : List ByteArray) (hw : w = v.map mk) : (w.length = 1 → ((rdOf d w 0).toList == ([42] : List UInt8)) = star v) ∧ (¬ w.length = 1 → star v = false) := by
  subst hw
  constructor
  · intro h
    rw [List.length_map] at h
    obtain ⟨x, rfl⟩ := List.length_eq_one_iff.1 h
    have : rdOf d ([x].map mk) 0 = mk x := rfl
    rw [this, toList_B, B_mk]
    unfold star
    by_cases e : x = [42]
    · simp [e]
    · rw [beq_eq_false_iff_ne.2 e, decide_eq_false (fun h => e (by simpa using h))]
  · intro h
    unfold star
    refine decide_eq_false (fun e => h (by rw [e]; rfl))
theorem Cut_ok (s : ByteArray) : strings_CutPrefix.f s (⟨#[87, 47]⟩ : ByteArray) = some (if tagW (B s) = true then mk ((B s).drop 2) else s, tagW (B s)) := by
  have hp : stringslite_HasPrefix.f s (⟨#[87, 47]⟩ : ByteArray) = some (tagW (B s)) := by
    unfold stringslite_HasPrefix.f
    have e2 : ((⟨#[87, 47]⟩ : ByteArray).size : Int) = 2 := rfl
    rw [e2]
    by_cases h : (s.size : Int) ≥ 2
    · rw [if_pos h, if_pos (by omega), if_pos (by omega)]
      have : (s.extract 0 (2 : Int).toNat).toList = (B s).take 2 := by rw [toList_B, B_to]; rfl
      rw [this, toList_B]; rfl
    · rw [if_neg h, tagW_short (by rw [← size_B]; omega)]
  unfold strings_CutPrefix.f stringslite_CutPrefix.f
  rw [hp]
  simp only [Option.bind_some]
  by_cases h : tagW (B s) = true
  · have hs : 2 ≤ s.size := by
      rw [size_B]
      by_cases h2 : 2 ≤ (B s).length
      · exact h2
      · rw [tagW_short (by omega)] at h; cases h
    have e2 : ((⟨#[87, 47]⟩ : ByteArray).size : Int) = 2 := rfl
    rw [if_pos h, if_pos h, e2, if_pos (by omega), if_pos (by omega), h]
    simp only [Option.bind_some]
    have : s.extract (2 : Int).toNat s.size = mk ((B s).drop 2) := B_inj (by rw [B_from, B_mk]; rfl)
    rw [this]
  · rw [if_neg h, if_neg h]
    simp only [Bool.not_eq_true] at h
    rw [h]; rfl
theorem may_loop (s : ByteArray) (hs : s.size ≤ 1000000000) : ∀ (l : List UInt8) (i : Nat), (B s).drop i = l → Ev (fun k => etag_may.l0 k s (s.size : Int) (i : Int)) (l.all tagByte)
  | [], i, hl => by
    have := end_drop hl
    exact Ev.step (fun _ => etag_may.l0.eq_2 ..) (Ev.neg (by omega) (Ev.now _))
  | c :: t, i, hl => by
    obtain ⟨h1, h2, h3⟩ := bt_drop hl
    refine Ev.step (fun _ => etag_may.l0.eq_2 ..) (Ev.pos (by omega) (Ev.pos (by omega) (Ev.pos (by omega) ?_)))
    rw [h1, List.all_cons]
    have ih := may_loop s hs t (i + 1) h3
    by_cases a1 : (c.toNat : Int) < 33
    · refine Ev.pos a1 (Ev.konst ?_)
      have : tagByte c = false := by unfold tagByte; rw [decide_eq_true (show c.toNat < 33 by omega)]; rfl
      rw [this]; rfl
    · refine Ev.neg a1 ?_
      by_cases a2 : c = 34
      · refine Ev.pos ((u8_eq c 34 (by omega)).2 a2) (Ev.konst ?_)
        have : tagByte c = false := by rw [a2]; decide
        rw [this]; rfl
      · refine Ev.neg (fun h => a2 ((u8_eq c 34 (by omega)).1 h)) ?_
        by_cases a3 : c = 127
        · refine Ev.pos ((u8_eq c 127 (by omega)).2 a3) (Ev.konst ?_)
          have : tagByte c = false := by rw [a3]; decide
          rw [this]; rfl
        · refine Ev.neg (fun h => a3 ((u8_eq c 127 (by omega)).1 h)) ?_
          have : tagByte c = true := by
            unfold tagByte
            rw [decide_eq_false (show ¬ c.toNat < 33 by omega), beq_eq_false_iff_ne.2 a2, beq_eq_false_iff_ne.2 a3]; rfl
          rw [this, Bool.true_and, wrap_id (by omega) (by omega), cast_succ]
          exact ih
theorem may_ok (s : ByteArray) (hs : s.size ≤ 1000000000) : Ev (fun k => etag_may.f k s) ((B s).all tagByte) := by
  unfold etag_may.f
  exact may_loop s hs (B s) 0 rfl
theorem Parse_ok (s : ByteArray) (hs : s.size ≤ 1000000000) : Ev (fun k => etag_Parse.f k s) (tagR (tagOf (B s))) := by
  unfold etag_Parse.f tagOf
  by_cases h : (s.size : Int) > 4000
  · rw [if_pos (by rw [← size_B]; omega)]
    exact Ev.pos h (Ev.now _)
  · rw [if_neg (by rw [← size_B]; omega)]
    refine Ev.neg h (Ev.bnd (Cut_ok s) ?_)
    dsimp only
    obtain ⟨r, hr, hB⟩ : ∃ r : ByteArray, (if tagW (B s) = true then mk ((B s).drop 2) else s) = r ∧ B r = (if tagW (B s) = true then (B s).drop 2 else B s) := by
      by_cases hw : tagW (B s) = true
      · exact ⟨_, rfl, by rw [if_pos hw, if_pos hw, B_mk]⟩
      · exact ⟨_, rfl, by rw [if_neg hw, if_neg hw]⟩
    have hrs : r.size ≤ s.size := by
      rw [size_B, hB, size_B s]
      split
      · rw [List.length_drop]; omega
      · exact Nat.le_refl _
    rw [hr, ← hB]
    by_cases h2 : (r.size : Int) < 2
    · rw [tag0_short _ (by rw [← size_B]; omega)]
      exact Ev.pos h2 (Ev.now _)
    · refine Ev.neg h2 (Ev.pos (by omega) ?_)
      obtain ⟨c, t, e⟩ : ∃ c t, B r = c :: t := by
        cases hc : B r with
        | nil =>
          have h0 : r.size = 0 := by rw [size_B, hc]; rfl
          omega
        | cons c t => exact ⟨c, t, rfl⟩
      have hsz : r.size = t.length + 1 := by rw [size_B, e]; simp
      have hc : bt r 0 = (c.toNat : Int) := bt_of (i := 0) (by rw [e]; rfl)
      rw [hc, e]
      by_cases e1 : c = 34
      · have w1 : wrap64 ((r.size : Int) - 1) = ((t.length : Nat) : Int) := by rw [wrap_id (by omega) (by omega)]; omega
        have hne : t ≠ [] := fun h => by rw [h] at hsz; simp at hsz; omega
        obtain ⟨d, hd⟩ : ∃ d, t.getLast? = some d := ⟨_, List.getLast?_eq_some_getLast hne⟩
        have hl : bt r ((t.length : Nat) : Int) = (d.toNat : Int) := bt_of (by
          rw [e]
          rw [List.getLast?_eq_getElem?] at hd
          obtain ⟨m, hm⟩ : ∃ m, t.length = m + 1 := ⟨t.length - 1, by cases t with | nil => exact absurd rfl hne | cons _ _ => simp⟩
          rw [hm] at hd ⊢
          simpa using hd)
        rw [w1, hl]
        refine Ev.pos ((u8_eq c 34 (by omega)).2 e1) (Ev.pos (by omega) (Ev.pos (by omega) ?_))
        by_cases e2 : d = 34
        · have hB2 : B (r.extract 1 t.length) = t.dropLast := by
            rw [B_extract, e, List.dropLast_eq_take]; rfl
          have hsz2 : (r.extract 1 t.length).size ≤ 1000000000 := by rw [size_B, hB2, List.length_dropLast]; omega
          have hx : r.extract 1 t.length = mk t.dropLast := B_inj (by rw [hB2]; rfl)
          rw [Int.toNat_natCast]
          refine Ev.pos ((u8_eq d 34 (by omega)).2 e2) (Ev.pos (by omega) (Ev.pos (by omega) (Ev.bind (may_ok _ hsz2) ?_)))
          rw [hB2]
          by_cases e3 : t.dropLast.all tagByte = true
          · have hy : tag0 (c :: t) = some t.dropLast := by rw [tag0_cons, if_pos ⟨e1, hne, by rw [hd, e2], e3⟩]
            rw [hy, hx]
            exact Ev.pos e3 (Ev.now _)
          · have hy : tag0 (c :: t) = none := by rw [tag0_cons, if_neg (fun h => e3 h.2.2.2)]
            rw [hy]
            exact Ev.neg e3 (Ev.now _)
        · have hy : tag0 (c :: t) = none := by rw [tag0_cons, if_neg (fun h => e2 (by have := h.2.2.1; rw [hd] at this; exact Option.some.inj this))]
          rw [hy]
          exact Ev.neg (fun h => e2 ((u8_eq d 34 (by omega)).1 h)) (Ev.now _)
      · have hy : tag0 (c :: t) = none := by rw [tag0_cons, if_neg (fun h => e1 h.1)]
        rw [hy]
        exact Ev.neg (fun h => e1 ((u8_eq c 34 (by omega)).1 h)) (Ev.now _)
/-- Where the first piece ends, from a state on. -/
def pc : Bool → List UInt8 → Nat
  | _, [] => 0
  | q, c :: t =>
    if c = 34 then 1 + pc (!q) t
    else if q = true ∧ c = 92 then (match t with | [] => 1 | _ :: u => 2 + pc q u)
    else if c = 44 ∧ q = false then 0
    else 1 + pc q t
theorem pc_cons (q : Bool) (c : UInt8) (t : List UInt8) : pc q (c :: t) = if c = 34 then 1 + pc (!q) t else if q = true ∧ c = 92 then (match t with | [] => 1 | _ :: u => 2 + pc q u) else if c = 44 ∧ q = false then 0 else 1 + pc q t := by rw [pc.eq_def]
theorem pc_le : ∀ (l : List UInt8) (q : Bool), pc q l ≤ l.length
  | [], q => by simp [pc]
  | [c], q => by
    have : ∀ q, pc q ([] : List UInt8) = 0 := fun _ => rfl
    unfold pc
    (repeat' split) <;> simp_all [pc]
  | c :: d :: u, q => by
    have h1 := pc_le (d :: u) (!q)
    have h2 := pc_le (d :: u) q
    have h3 := pc_le u q
    unfold pc
    simp only [List.length_cons] at h1 h2 ⊢
    split
    · omega
    · split
      · omega
      · split <;> omega
def one (l : List UInt8) : List (List UInt8) := if tr l = [] then [] else [tr l]
/-- The pieces of one value: what has been gone through since the last cut, the state, the rest. -/
def rf : List UInt8 → Bool → List UInt8 → List (List UInt8)
  | cur, _, [] => one cur
  | cur, q, c :: t =>
    if c = 34 then rf (cur ++ [c]) (!q) t
    else if q = true ∧ c = 92 then (match t with | [] => one (cur ++ [c]) | d :: u => rf (cur ++ [c, d]) q u)
    else if c = 44 ∧ q = false then one cur ++ rf [] false t
    else rf (cur ++ [c]) q t
theorem rf_cons (cur : List UInt8) (q : Bool) (c : UInt8) (t : List UInt8) : rf cur q (c :: t) = if c = 34 then rf (cur ++ [c]) (!q) t else if q = true ∧ c = 92 then (match t with | [] => one (cur ++ [c]) | d :: u => rf (cur ++ [c, d]) q u) else if c = 44 ∧ q = false then one cur ++ rf [] false t else rf (cur ++ [c]) q t := by rw [rf.eq_def]
theorem rf_plain (cur : List UInt8) (q : Bool) (c : UInt8) (t : List UInt8) (h : ¬ (q = true ∧ c = 92)) : rf cur q (c :: t) = if c = 34 then rf (cur ++ [c]) (!q) t else if c = 44 ∧ q = false then one cur ++ rf [] false t else rf (cur ++ [c]) q t := by rw [rf_cons, if_neg h]
def pieces (l : List UInt8) : List (List UInt8) := rf [] false l
theorem rf_pc : ∀ (l cur : List UInt8) (q : Bool), rf cur q l = one (cur ++ l.take (pc q l)) ++ (if pc q l < l.length then pieces (l.drop (pc q l + 1)) else [])
  | [], cur, q => by simp [rf, pc]
  | [c], cur, q => by
    have h0 : ∀ q, pc q ([] : List UInt8) = 0 := fun _ => rfl
    have h1 : ∀ cur q, rf cur q [] = one cur := fun _ _ => rfl
    unfold rf pc
    by_cases e1 : c = 34
    · simp [e1, h0, h1]
    · by_cases e2 : q = true ∧ c = 92
      · simp [e1, e2]
      · by_cases e3 : c = 44 ∧ q = false
        · simp [e3, pieces, h1]
        · rw [if_neg e1, if_neg e2, if_neg e3, if_neg e1, if_neg e2, if_neg e3, h0, h1]
          simp
  | c :: d :: u, cur, q => by
    have i1 := rf_pc (d :: u) (cur ++ [c]) (!q)
    have i2 := rf_pc (d :: u) (cur ++ [c]) q
    have i3 := rf_pc u (cur ++ [c, d]) q
    rw [rf, pc]
    by_cases e1 : c = 34
    · rw [if_pos e1, if_pos e1, i1]
      rw [show (1 + pc (!q) (d :: u)) = pc (!q) (d :: u) + 1 from by omega, List.take_succ_cons, List.drop_succ_cons]
      simp only [List.length_cons, List.append_assoc, List.cons_append, List.nil_append]
      congr 1
      by_cases hlt : pc (!q) (d :: u) < u.length + 1
      · rw [if_pos hlt, if_pos (by omega)]; simp only [List.drop_succ_cons]
      · rw [if_neg hlt, if_neg (by omega)]
    · rw [if_neg e1, if_neg e1]
      by_cases e2 : q = true ∧ c = 92
      · rw [if_pos e2, if_pos e2]
        show rf (cur ++ [c, d]) q u = one (cur ++ (c :: d :: u).take (2 + pc q u)) ++ (if 2 + pc q u < (c :: d :: u).length then pieces ((c :: d :: u).drop (2 + pc q u + 1)) else [])
        rw [i3, show 2 + pc q u = pc q u + 1 + 1 from by omega, List.take_succ_cons, List.take_succ_cons, List.drop_succ_cons, List.drop_succ_cons]
        simp only [List.length_cons, List.append_assoc, List.cons_append, List.nil_append]
        congr 1
        by_cases hlt : pc q u < u.length
        · rw [if_pos hlt, if_pos (by omega)]
        · rw [if_neg hlt, if_neg (by omega)]
      · rw [if_neg e2, if_neg e2]
        by_cases e3 : c = 44 ∧ q = false
        · rw [if_pos e3, if_pos e3]
          simp [pieces]
        · rw [if_neg e3, if_neg e3, i2]
          rw [show (1 + pc q (d :: u)) = pc q (d :: u) + 1 from by omega, List.take_succ_cons, List.drop_succ_cons]
          simp only [List.length_cons, List.append_assoc, List.cons_append, List.nil_append]
          congr 1
          by_cases hlt : pc q (d :: u) < u.length + 1
          · rw [if_pos hlt, if_pos (by omega)]; simp only [List.drop_succ_cons]
          · rw [if_neg hlt, if_neg (by omega)]
theorem pieces_nil : pieces [] = [] := by simp [pieces, rf, one, tr_nil]
theorem pieces_pc (l : List UInt8) : pieces l = one (l.take (pc false l)) ++ (if pc false l < l.length then pieces (l.drop (pc false l + 1)) else []) := by
  have := rf_pc l [] false
  rw [List.nil_append] at this
  exact this
/-- The same where the rest is cut as the program cuts it. -/
theorem pieces_cut (l : List UInt8) : pieces l = one (l.take (pc false l)) ++ pieces (l.drop (min (pc false l + 1) l.length)) := by
  have h := pc_le l false
  rw [pieces_pc l]
  by_cases hlt : pc false l < l.length
  · rw [if_pos hlt, Nat.min_eq_left (by omega)]
  · rw [if_neg hlt, Nat.min_eq_right (by omega), List.drop_length, pieces_nil]
theorem one_len (l : List UInt8) : (one l).length ≤ 1 := by unfold one; split <;> simp
theorem pieces_len : ∀ (n : Nat) (l : List UInt8), l.length ≤ n → (pieces l).length ≤ l.length + 1
  | 0, l, h => by
    have : l = [] := by cases l <;> simp_all
    subst this; rw [pieces_nil]; simp
  | n + 1, l, h => by
    rw [pieces_pc l]
    have h1 := one_len (l.take (pc false l))
    by_cases hlt : pc false l < l.length
    · rw [if_pos hlt, List.length_append]
      have h2 := pieces_len n (l.drop (pc false l + 1)) (by rw [List.length_drop]; omega)
      rw [List.length_drop] at h2
      omega
    · rw [if_neg hlt, List.length_append]
      simp only [List.length_nil]; omega
/-- The pieces of several values. -/
def splits (v : List ByteArray) : List (List UInt8) := v.flatMap fun s => pieces (B s)
theorem Trim_ok (s : ByteArray) (h : s.size ≤ 9223372036854775807) : head_Trim.f s = some (mk (tr (B s))) := by
  unfold head_Trim.f strings_Trim.f
  rw [if_pos h, if_pos rfl]
  rfl
theorem piece_loop (s : ByteArray) (hs : s.size ≤ 1000000000) : ∀ (n : Nat) (l : List UInt8) (i : Nat) (q : Bool), l.length ≤ n → (B s).drop i = l → i ≤ s.size →
    Ev (fun k => head_piece.l0 k s q (i : Int)) ((i + pc q l : Nat) : Int)
  | n, [], i, q, hn, hl, hi => by
    have h1 := end_drop hl
    have e : i = s.size := by omega
    refine Ev.step (fun _ => head_piece.l0.eq_2 ..) (Ev.neg (by omega) (Ev.konst ?_))
    simp [pc, e]
  | 0, c :: t, i, q, hn, hl, hi => by simp at hn
  | n + 1, c :: t, i, q, hn, hl, hi => by
    obtain ⟨h1, h2, h3⟩ := bt_drop hl
    simp only [List.length_cons] at hn
    have w1 : wrap64 ((i : Int) + 1) = ((i + 1 : Nat) : Int) := by rw [wrap_id (by omega) (by omega)]; omega
    have w2 : wrap64 (((i + 1 : Nat) : Int) + 1) = ((i + 2 : Nat) : Int) := by rw [wrap_id (by omega) (by omega)]; omega
    refine Ev.step (fun _ => head_piece.l0.eq_2 ..) (Ev.pos (by omega) (Ev.pos (by omega) ?_))
    rw [h1, w1, pc_cons]
    by_cases e1 : c = 34
    · rw [if_pos e1]
      refine Ev.pos ((u8_eq c 34 (by omega)).2 e1) ?_
      have := piece_loop s hs n t (i + 1) (!q) (by omega) h3 (by omega)
      rw [show i + (1 + pc (!q) t) = i + 1 + pc (!q) t from by omega]
      exact this
    · rw [if_neg e1]
      refine Ev.neg (fun h => e1 ((u8_eq c 34 (by omega)).1 h)) ?_
      have tail : ∀ b, ¬ b = true → (¬ (q = true ∧ c = 92)) → Ev (fun k => head_piece.j1 k s q (i : Int) b) ((i + (if c = 44 ∧ q = false then 0 else 1 + pc q t) : Nat) : Int) := by
        intro b hb hq
        refine Ev.step (fun _ => head_piece.j1.eq_2 ..) (Ev.neg hb (Ev.pos (by omega) (Ev.pos (by omega) ?_)))
        rw [h1, w1]
        by_cases e3 : c = 44
        · refine Ev.pos ((u8_eq c 44 (by omega)).2 e3) ?_
          cases q with
          | true =>
            rw [if_neg (by simp)]
            refine Ev.pos rfl ?_
            have := piece_loop s hs n t (i + 1) true (by omega) h3 (by omega)
            rw [show i + (1 + pc true t) = i + 1 + pc true t from by omega]
            exact this
          | false =>
            rw [if_pos ⟨e3, rfl⟩]
            exact Ev.neg (by simp) (Ev.now _)
        · rw [if_neg (fun h => e3 h.1)]
          refine Ev.neg (fun h => e3 ((u8_eq c 44 (by omega)).1 h)) ?_
          have := piece_loop s hs n t (i + 1) q (by omega) h3 (by omega)
          rw [show i + (1 + pc q t) = i + 1 + pc q t from by omega]
          exact this
      cases q with
      | false =>
        rw [if_neg (by simp)]
        exact Ev.neg (by simp) (tail false (by simp) (by simp))
      | true =>
        refine Ev.pos rfl ?_
        by_cases e2 : c = 92
        · rw [if_pos ⟨rfl, e2⟩, show ((c.toNat : Int) == 92) = true from by simpa using (u8_eq c 92 (by omega)).2 e2]
          refine Ev.step (fun _ => head_piece.j1.eq_2 ..) (Ev.pos rfl ?_)
          rw [w1, w2]
          cases t with
          | nil =>
            have h4 := end_drop h3
            refine Ev.step (fun _ => head_piece.l0.eq_2 ..) (Ev.neg (by omega) (Ev.konst ?_))
            simp; omega
          | cons d u =>
            obtain ⟨_, h5, h6⟩ := bt_drop h3
            simp only [List.length_cons] at hn
            have := piece_loop s hs n u (i + 2) true (by omega) h6 (by omega)
            show Ev _ ((i + (2 + pc true u) : Nat) : Int)
            rw [show i + (2 + pc true u) = i + 2 + pc true u from by omega]
            exact this
        · rw [if_neg (fun h => e2 h.2), show ((c.toNat : Int) == 92) = false from by simpa using fun h => e2 ((u8_eq c 92 (by omega)).1 h)]
          exact tail false (by simp) (fun h => e2 h.2)
theorem piece_ok (s : ByteArray) (hs : s.size ≤ 1000000000) : Ev (fun k => head_piece.f k s) ((pc false (B s) : Nat) : Int) := by
  unfold head_piece.f
  have := piece_loop s hs (B s).length (B s) 0 false (Nat.le_refl _) rfl (by omega)
  rw [Nat.zero_add] at this
  exact this
theorem mn_nat (a b : Nat) : mn (a : Int) (b : Int) = ((min a b : Nat) : Int) := by
  unfold mn; split <;> omega
/-- One value is gone through; what follows is told. -/
theorem split_one (v : List ByteArray) (m : Int) (j : Int) {r : List ByteArray} (bd : Nat) (hbd : bd ≤ 1000000000) : ∀ (n : Nat) (s : ByteArray) (acc : List ByteArray), s.size ≤ n → s.size ≤ 1000000000 → acc.length + s.size + 1 ≤ bd →
    Ev (fun k => head_Split.l0 k (acc ++ (pieces (B s)).map mk) v m (wrap64 (j + 1))) r → Ev (fun k => head_Split.l1 k acc s v m j) r
  | n, s, acc, hn, hs, ha, hr => by
    refine Ev.step (fun _ => head_Split.l1.eq_2 ..) ?_
    by_cases he : B s = []
    · rw [he, pieces_nil] at hr
      simp only [List.map_nil, List.append_nil] at hr
      exact Ev.pos (by rw [toList_B, he]) hr
    · have hne : ¬ s.toList = [] := by rw [toList_B]; exact he
      have hp := pc_le (B s) false
      rw [← size_B] at hp
      have hpos : 0 < s.size := by
        rw [size_B]
        cases h : B s with
        | nil => exact absurd h he
        | cons _ _ => simp
      have w1 : wrap64 (((pc false (B s) : Nat) : Int) + 1) = ((pc false (B s) + 1 : Nat) : Int) := by rw [wrap_id (by omega) (by omega)]; omega
      have e1 : ((mn ((pc false (B s) + 1 : Nat) : Int) (s.size : Int)) : Int).toNat = min (pc false (B s) + 1) s.size := by rw [mn_nat]; exact Int.toNat_natCast _
      have h0 : 0 ≤ mn ((pc false (B s) + 1 : Nat) : Int) (s.size : Int) := by rw [mn_nat]; omega
      have h1 : mn ((pc false (B s) + 1 : Nat) : Int) (s.size : Int) ≤ (s.size : Int) := by rw [mn_nat]; omega
      have cut := pieces_cut (B s)
      have eT : head_Trim.f (s.extract 0 ((pc false (B s) : Nat) : Int).toNat) = some (mk (tr ((B s).take (pc false (B s))))) := by
        rw [Trim_ok _ (by rw [size_B, B_to]; have := List.length_take_le (pc false (B s)) (B s); simp only [Int.toNat_natCast] at *; rw [← size_B] at *; omega), B_to, Int.toNat_natCast]
      have hrest : B (s.extract (min (pc false (B s) + 1) s.size) s.size) = (B s).drop (min (pc false (B s) + 1) (B s).length) := by rw [B_from, ← size_B]
      have hsz : (s.extract (min (pc false (B s) + 1) s.size) s.size).size = s.size - min (pc false (B s) + 1) s.size := by rw [size_B, B_from, List.length_drop, ← size_B]
      refine Ev.neg hne (Ev.bind (piece_ok s hs) (Ev.pos (by omega) (Ev.pos (by omega) (Ev.bnd eT ?_))))
      rw [w1, e1]
      obtain ⟨n, rfl⟩ : ∃ m, n = m + 1 := ⟨n - 1, by omega⟩
      by_cases hz : tr ((B s).take (pc false (B s))) = []
      · refine Ev.pos (by rw [toList_B, B_mk, hz]) (Ev.pos h0 (Ev.pos h1 ?_))
        refine split_one v m j bd hbd n _ acc (by rw [hsz]; omega) (by rw [hsz]; omega) (by rw [hsz]; omega) ?_
        rw [hrest]
        rw [cut, one, if_pos hz, List.nil_append] at hr
        exact hr
      · refine Ev.neg (by rw [toList_B, B_mk]; exact hz) (Ev.pos (by omega) (Ev.pos h0 (Ev.pos h1 ?_)))
        refine split_one v m j bd hbd n _ _ (by rw [hsz]; omega) (by rw [hsz]; omega) (by rw [hsz]; simp only [List.length_append, List.length_cons, List.length_nil]; omega) ?_
        rw [hrest]
        rw [cut, one, if_neg hz] at hr
        simpa using hr
theorem split_loop (v : List ByteArray) (hv : v.length ≤ 1000000) (hb : ∀ s ∈ v, s.size ≤ 1100000) : ∀ (l : List ByteArray) (i : Nat) (acc : List ByteArray), v.drop i = l → acc.length ≤ 1100001 * i → i + l.length ≤ 400 →
    Ev (fun k => head_Split.l0 k acc v (v.length : Int) (i : Int)) (acc ++ (splits l).map mk)
  | [], i, acc, hl, ha, hi => by
    have := drop_nil hl
    refine Ev.step (fun _ => head_Split.l0.eq_2 ..) (Ev.neg (by omega) (Ev.konst ?_))
    simp [splits]
  | s :: t, i, acc, hl, ha, hi => by
    obtain ⟨h1, h2, h3⟩ := drop_cons hl
    have hs := hb s (List.mem_of_getElem? h2)
    have hp := pieces_len (B s).length (B s) (Nat.le_refl _)
    rw [← size_B] at hp
    simp only [List.length_cons] at hi
    refine Ev.step (fun _ => head_Split.l0.eq_2 ..) (Ev.pos (by omega) (Ev.pos (by omega) (Ev.pos (by omega) ?_)))
    rw [rdOf_of h2]
    refine split_one v _ _ 1000000000 (Nat.le_refl _) s.size s acc (Nat.le_refl _) (by omega) (by omega) ?_
    rw [wrap_id (by omega) (by omega), cast_succ]
    have hl' : (acc ++ (pieces (B s)).map mk).length ≤ 1100001 * (i + 1) := by rw [List.length_append, List.length_map]; omega
    have := split_loop v hv hb t (i + 1) _ h3 hl' (by omega)
    simpa [splits] using this
def P23 (x : Bool × List UInt8) : S23 := ⟨x.1, mk x.2⟩
theorem list_loop (v : List ByteArray) (hv : v.length ≤ 1000000000) (hb : ∀ s ∈ v, s.size ≤ 1000000000) : ∀ (l : List ByteArray) (i : Nat) (acc : List S23), v.drop i = l → acc.length ≤ i →
    Ev (fun k => etag_List.l0 k acc v (v.length : Int) (i : Int)) (match tgs (l.map B) with | some m => (acc ++ m.map P23, false, decide (((acc ++ m.map P23).length : Int) > 0)) | none => ([], false, false))
  | [], i, acc, hl, ha => by
    have := drop_nil hl
    refine Ev.step (fun _ => etag_List.l0.eq_2 ..) (Ev.neg (by omega) (Ev.konst ?_))
    simp [tgs]
  | s :: t, i, acc, hl, ha => by
    obtain ⟨h2, h3, h4⟩ := drop_cons hl
    have hs := hb s (List.mem_of_getElem? h3)
    refine Ev.step (fun _ => etag_List.l0.eq_2 ..) (Ev.pos (by omega) (Ev.pos (by omega) (Ev.pos (by omega) ?_)))
    rw [rdOf_of h3, List.map_cons, tgs]
    refine Ev.bind (Parse_ok s hs) ?_
    by_cases h : (tagOf (B s)).2.2 = true
    · rw [if_pos h]
      refine Ev.pos h (Ev.pos (by omega) ?_)
      rw [wrap_id (by omega) (by omega), cast_succ]
      have e0 : (⟨(tagR (tagOf (B s))).1, (tagR (tagOf (B s))).2.1⟩ : S23) = P23 ((tagOf (B s)).1, (tagOf (B s)).2.1) := rfl
      rw [e0]
      have := list_loop v hv hb t (i + 1) (acc ++ [P23 ((tagOf (B s)).1, (tagOf (B s)).2.1)]) h4 (by simp only [List.length_append, List.length_cons, List.length_nil]; omega)
      cases e : tgs (t.map B) with
      | none => rw [e] at this; simpa using this
      | some m => rw [e] at this; simpa using this
    · rw [if_neg h]
      exact Ev.neg h (Ev.now _)
theorem map_B_mk (l : List (List UInt8)) : (l.map mk).map B = l := by
  rw [List.map_map]
  have : (B ∘ mk) = id := funext fun x => B_mk x
  rw [this, List.map_id]
theorem List_ok (v : List ByteArray) (hv : v.length ≤ 400) (hb : ∀ s ∈ v, s.size ≤ 1100000) (hp : (splits v).length ≤ 1000000000) (hq : ∀ x ∈ splits v, x.length ≤ 1000000000) : Ev (fun k => etag_List.f k v) (tagsOf P23 (splits v)) := by
  unfold etag_List.f
  have hS : Ev (fun k => head_Split.f k v) ((splits v).map mk) := by
    unfold head_Split.f
    have := split_loop v (by omega) hb v 0 [] rfl (by simp) (by omega)
    simpa using this
  obtain ⟨s1, s2⟩ := star_head (splits v) ByteArray.empty _ rfl
  have tail : star (splits v) = false → Ev (fun k => etag_List.l0 k [] ((splits v).map mk) (((splits v).map mk).length : Int) 0) (tagsOf P23 (splits v)) := by
    intro hst
    have := list_loop ((splits v).map mk) (by rw [List.length_map]; exact hp) (fun s hs => by
      obtain ⟨x, hx, rfl⟩ := List.mem_map.1 hs
      rw [size_B, B_mk]; exact hq x hx) ((splits v).map mk) 0 [] rfl (by simp)
    rw [map_B_mk] at this
    unfold tagsOf
    rw [if_neg (by rw [hst]; simp)]
    exact this
  refine Ev.bind hS ?_
  by_cases h1 : (((splits v).map mk).length : Int) = 1
  · refine Ev.pos h1 (Ev.pos (by omega) ?_)
    rw [s1 (by omega)]
    refine Ev.step (fun _ => etag_List.j0.eq_2 ..) ?_
    by_cases hst : star (splits v) = true
    · refine Ev.pos hst (Ev.konst ?_)
      unfold tagsOf; rw [if_pos hst]
    · exact Ev.neg hst (tail (by simpa using hst))
  · refine Ev.neg h1 (Ev.step (fun _ => etag_List.j0.eq_2 ..) (Ev.neg (by simp) (tail (s2 (by omega)))))
theorem Print_ok (w : Bool) (m : ByteArray) (hm : m.size ≤ 1000000) : Ev (fun k => etag_Print.f k w m) (prtR w (B m)) := by
  unfold etag_Print.f
  have e1 : ((⟨#[34]⟩ : ByteArray) ++ m).size = 1 + m.size := by rw [size_B, B_append, List.length_append, ← size_B, ← size_B]; rfl
  have e2 : (((⟨#[34]⟩ : ByteArray) ++ m) ++ (⟨#[34]⟩ : ByteArray)).size = 2 + m.size := by rw [size_B, B_append, List.length_append, ← size_B, ← size_B, e1]; show 1 + m.size + 1 = _; omega
  have b2 : B (((⟨#[34]⟩ : ByteArray) ++ m) ++ (⟨#[34]⟩ : ByteArray)) = 34 :: B m ++ [34] := by rw [B_append, B_append]; rfl
  refine Ev.pos (by omega) (Ev.pos (by omega) ?_)
  cases w with
  | true =>
    have b3 : B ((⟨#[87, 47]⟩ : ByteArray) ++ (((⟨#[34]⟩ : ByteArray) ++ m) ++ (⟨#[34]⟩ : ByteArray))) = prt true (B m) := by rw [B_append, b2]; rfl
    have e3 : ((⟨#[87, 47]⟩ : ByteArray) ++ (((⟨#[34]⟩ : ByteArray) ++ m) ++ (⟨#[34]⟩ : ByteArray))).size ≤ 1000000000 := by rw [size_B, b3]; simp [prt, ← size_B]; omega
    have hx : (⟨#[87, 47]⟩ : ByteArray) ++ (((⟨#[34]⟩ : ByteArray) ++ m) ++ (⟨#[34]⟩ : ByteArray)) = mk (prt true (B m)) := B_inj (by rw [b3]; rfl)
    refine Ev.pos rfl (Ev.pos (by omega) ?_)
    rw [hx] at e3 ⊢
    refine Ev.bind (Parse_ok _ e3) ?_
    rw [B_mk]
    unfold prtR
    by_cases h : (tagOf (prt true (B m))).2.2 = true
    · rw [if_pos h]; exact Ev.pos h (Ev.now _)
    · rw [if_neg h]; exact Ev.neg h (Ev.now _)
  | false =>
    have hx : (((⟨#[34]⟩ : ByteArray) ++ m) ++ (⟨#[34]⟩ : ByteArray)) = mk (prt false (B m)) := B_inj (by rw [b2]; rfl)
    have e3 := e2
    rw [hx] at e3
    refine Ev.neg (by simp) ?_
    rw [hx]
    refine Ev.bind (Parse_ok _ (by omega)) ?_
    rw [B_mk]
    unfold prtR
    by_cases h : (tagOf (prt false (B m))).2.2 = true
    · rw [if_pos h]; exact Ev.pos h (Ev.now _)
    · rw [if_neg h]; exact Ev.neg h (Ev.now _)
theorem rdw_snoc (p : UInt8 → Bool) (l : List UInt8) (c : UInt8) : rdw p (l ++ [c]) = if p c = true then rdw p l else l ++ [c] := by
  unfold rdw
  rw [List.reverse_append]
  by_cases h : p c = true
  · simp [h]
  · simp [h]
theorem blank_iff (c : UInt8) : blank c = true ↔ ((c.toNat : Int) = 32 ∨ (c.toNat : Int) = 9) := by
  rw [show (32 : Int) = ((32 : Nat) : Int) from rfl, show (9 : Int) = ((9 : Nat) : Int) from rfl, u8_eq c 32 (by omega), u8_eq c 9 (by omega)]
  unfold blank
  simp
theorem TrimR_l1 : ∀ (n : Nat) (s : ByteArray), s.size ≤ n → s.size ≤ 1000000000 → Ev (fun k => sprref12_Trim.l1 k s) (mk (rdw blank (B s)))
  | n, s, hn, hs => by
    refine Ev.step (fun _ => sprref12_Trim.l1.eq_2 ..) ?_
    rcases List.eq_nil_or_concat (B s) with he | ⟨l, c, he⟩
    · have h0 : s.size = 0 := by rw [size_B, he]; rfl
      refine Ev.neg (by omega) (Ev.konst ?_)
      rw [← mk_B s, he]; rfl
    · have hsz : s.size = l.length + 1 := by rw [size_B, he]; simp
      have w1 : wrap64 ((s.size : Int) - 1) = ((l.length : Nat) : Int) := by rw [wrap_id (by omega) (by omega)]; omega
      have hc : bt s ((l.length : Nat) : Int) = (c.toNat : Int) := bt_of (by rw [he]; simp)
      have hin : B (s.extract 0 l.length) = l := by rw [B_to, he]; simp
      have hl : (s.extract 0 l.length).size = l.length := by rw [size_B, hin]
      rw [w1, hc, he, List.concat_eq_append, rdw_snoc, Int.toNat_natCast]
      refine Ev.pos (by omega) (Ev.pos (by omega) (Ev.pos (by omega) ?_))
      obtain ⟨n, rfl⟩ : ∃ m, n = m + 1 := ⟨n - 1, by omega⟩
      by_cases h1 : (c.toNat : Int) = 32
      · rw [if_pos ((blank_iff c).2 (.inl h1))]
        refine Ev.pos h1 (Ev.pos (by omega) ?_)
        have := TrimR_l1 n (s.extract 0 l.length) (by omega) (by omega)
        rw [hin] at this; exact this
      · by_cases h2 : (c.toNat : Int) = 9
        · rw [if_pos ((blank_iff c).2 (.inr h2))]
          refine Ev.neg h1 (Ev.pos h2 (Ev.pos (by omega) ?_))
          have := TrimR_l1 n (s.extract 0 l.length) (by omega) (by omega)
          rw [hin] at this; exact this
        · rw [if_neg (fun h => ((blank_iff c).1 h).elim h1 h2)]
          refine Ev.neg h1 (Ev.neg h2 (Ev.konst ?_))
          rw [← mk_B s, he, List.concat_eq_append]
theorem TrimR_l0 : ∀ (n : Nat) (s : ByteArray), s.size ≤ n → s.size ≤ 1000000000 → Ev (fun k => sprref12_Trim.l0 k s) (mk (tr (B s)))
  | n, s, hn, hs => by
    refine Ev.step (fun _ => sprref12_Trim.l0.eq_2 ..) ?_
    rw [tr_eq]
    have fin : ∀ l, l = B s → Ev (fun k => sprref12_Trim.j1 k s) (mk (rdw blank l)) := fun l e => by
      subst e
      exact Ev.step (fun _ => sprref12_Trim.j1.eq_2 ..) (TrimR_l1 s.size s (Nat.le_refl _) hs)
    cases he : B s with
    | nil =>
      have h0 : s.size = 0 := by rw [size_B, he]; rfl
      exact Ev.neg (by omega) (fin _ (by rw [he]; rfl))
    | cons c t =>
      have hsz : s.size = t.length + 1 := by rw [size_B, he]; simp
      have hc : bt s 0 = (c.toNat : Int) := bt_of (i := 0) (by rw [he]; rfl)
      have hin : B (s.extract 1 s.size) = t := by rw [B_from, he]; rfl
      have hl : (s.extract 1 s.size).size = t.length := by rw [size_B, hin]
      rw [hc, List.dropWhile_cons]
      refine Ev.pos (by omega) (Ev.pos (by omega) ?_)
      obtain ⟨n, rfl⟩ : ∃ m, n = m + 1 := ⟨n - 1, by omega⟩
      by_cases h1 : (c.toNat : Int) = 32
      · rw [if_pos ((blank_iff c).2 (.inl h1))]
        refine Ev.pos h1 (Ev.pos (by omega) ?_)
        have := TrimR_l0 n (s.extract 1 s.size) (by omega) (by omega)
        rw [hin, tr_eq] at this; exact this
      · by_cases h2 : (c.toNat : Int) = 9
        · rw [if_pos ((blank_iff c).2 (.inr h2))]
          refine Ev.neg h1 (Ev.pos h2 (Ev.pos (by omega) ?_))
          have := TrimR_l0 n (s.extract 1 s.size) (by omega) (by omega)
          rw [hin, tr_eq] at this; exact this
        · rw [if_neg (fun h => ((blank_iff c).1 h).elim h1 h2)]
          exact Ev.neg h1 (Ev.neg h2 (fin _ he.symm))
theorem TrimR_ok (s : ByteArray) (hs : s.size ≤ 1000000000) : Ev (fun k => sprref12_Trim.f k s) (mk (tr (B s))) := by
  unfold sprref12_Trim.f
  exact TrimR_l0 s.size s (Nat.le_refl _) hs
theorem pieceR_ok (acc : List ByteArray) (s : ByteArray) (hs : s.size ≤ 1000000000) (ha : acc.length ≤ 2000000000) : Ev (fun k => sprref12_piece.f k acc s) (acc ++ (one (B s)).map mk) := by
  unfold sprref12_piece.f
  refine Ev.bind (TrimR_ok s hs) ?_
  by_cases hz : tr (B s) = []
  · rw [one, if_pos hz]
    exact Ev.pos (by rw [toList_B, B_mk, hz]) (Ev.konst (by simp))
  · rw [one, if_neg hz]
    exact Ev.neg (by rw [toList_B, B_mk]; exact hz) (Ev.pos (by omega) (Ev.konst (by simp)))
theorem take_more {l : List UInt8} {f i : Nat} {cur : List UInt8} {c : UInt8} {t : List UInt8} (h : (l.drop f).take (i - f) = cur) (hd : l.drop i = c :: t) (hf : f ≤ i) : (l.drop f).take (i + 1 - f) = cur ++ [c] := by
  obtain ⟨_, h2, _⟩ := drop_cons hd
  rw [show i + 1 - f = (i - f) + 1 from by omega, List.take_add_one, h, List.getElem?_drop, show f + (i - f) = i from by omega, h2]
  rfl
theorem piecesR_loop (s : ByteArray) (hs : s.size ≤ 1100000) : ∀ (n : Nat) (l cur : List UInt8) (acc : List ByteArray) (f i : Nat) (q : Bool), l.length ≤ n → (B s).drop i = l → f ≤ i → i ≤ s.size → ((B s).drop f).take (i - f) = cur → acc.length ≤ 1000 + i →
    Ev (fun k => sprref12_pieces.l0 k s acc (f : Int) q (i : Int)) (acc ++ (rf cur q l).map mk)
  | n, [], cur, acc, f, i, q, hn, hl, hf, hi, hc, ha => by
    have h1 := end_drop hl
    have e : i = s.size := by omega
    have hB : B (s.extract f s.size) = cur := by
      rw [B_from, ← hc]
      exact (List.take_of_length_le (by rw [List.length_drop, ← size_B]; omega)).symm
    have hsz : (s.extract f s.size).size ≤ 1100000 := by rw [size_B, B_from, List.length_drop, ← size_B]; omega
    refine Ev.step (fun _ => sprref12_pieces.l0.eq_2 ..) (Ev.neg (by omega) (Ev.pos (by omega) (Ev.pos (by omega) ?_)))
    rw [Int.toNat_natCast]
    refine Ev.bind (pieceR_ok acc _ (by omega) (by omega)) (Ev.konst ?_)
    rw [hB]; rfl
  | 0, c :: t, cur, acc, f, i, q, hn, hl, hf, hi, hc, ha => by simp at hn
  | n + 1, c :: t, cur, acc, f, i, q, hn, hl, hf, hi, hc, ha => by
    obtain ⟨h1, h2, h3⟩ := bt_drop hl
    simp only [List.length_cons] at hn
    have w1 : wrap64 ((i : Int) + 1) = ((i + 1 : Nat) : Int) := by rw [wrap_id (by omega) (by omega)]; omega
    have w2 : wrap64 (((i + 1 : Nat) : Int) + 1) = ((i + 2 : Nat) : Int) := by rw [wrap_id (by omega) (by omega)]; omega
    have hm := take_more hc hl hf
    refine Ev.step (fun _ => sprref12_pieces.l0.eq_2 ..) (Ev.pos (by omega) ?_)
    rw [h1]
    have tail : ∀ b, ¬ b = true → ¬ (q = true ∧ c = 92) → Ev (fun k => sprref12_pieces.j1 k s acc (f : Int) q (i : Int) b) (acc ++ (if c = 34 then rf (cur ++ [c]) (!q) t else if c = 44 ∧ q = false then one cur ++ rf [] false t else rf (cur ++ [c]) q t).map mk) := by
      intro b hb hq
      refine Ev.step (fun _ => sprref12_pieces.j1.eq_2 ..) (Ev.neg hb (Ev.pos (by omega) (Ev.pos (by omega) ?_)))
      rw [h1, w1]
      by_cases e1 : c = 34
      · rw [if_pos e1]
        exact Ev.pos ((u8_eq c 34 (by omega)).2 e1) (piecesR_loop s hs n t _ acc f (i + 1) (!q) (by omega) h3 (by omega) (by omega) hm (by omega))
      · rw [if_neg e1]
        refine Ev.neg (fun h => e1 ((u8_eq c 34 (by omega)).1 h)) ?_
        by_cases e3 : c = 44
        · refine Ev.pos ((u8_eq c 44 (by omega)).2 e3) ?_
          cases q with
          | true =>
            rw [if_neg (by simp)]
            exact Ev.pos rfl (piecesR_loop s hs n t _ acc f (i + 1) true (by omega) h3 (by omega) (by omega) hm (by omega))
          | false =>
            rw [if_pos ⟨e3, rfl⟩]
            have hB : B (s.extract f i) = cur := by rw [B_extract, hc]
            have hsz : (s.extract f i).size ≤ 1100000 := by rw [size_B, B_extract]; have := List.length_take_le (i - f) ((B s).drop f); omega
            refine Ev.neg (by simp) (Ev.pos (by omega) (Ev.pos (by omega) (Ev.pos (by omega) ?_)))
            rw [Int.toNat_natCast, Int.toNat_natCast]
            refine Ev.bind (pieceR_ok acc _ (by omega) (by omega)) ?_
            rw [hB]
            have ho := one_len cur
            have := piecesR_loop s hs n t [] (acc ++ (one cur).map mk) (i + 1) (i + 1) false (by omega) h3 (by omega) (by omega) (by simp) (by rw [List.length_append, List.length_map]; omega)
            simpa using this
        · rw [if_neg (fun h => e3 h.1)]
          exact Ev.neg (fun h => e3 ((u8_eq c 44 (by omega)).1 h)) (piecesR_loop s hs n t _ acc f (i + 1) q (by omega) h3 (by omega) (by omega) hm (by omega))
    cases q with
    | false =>
      rw [rf_plain _ _ _ _ (by simp)]
      exact Ev.neg (by simp) (tail false (by simp) (by simp))
    | true =>
      refine Ev.pos rfl (Ev.pos (by omega) ?_)
      by_cases e2 : c = 92
      · rw [show ((c.toNat : Int) == 92) = true from by simpa using (u8_eq c 92 (by omega)).2 e2]
        have e1 : ¬ c = 34 := by rw [e2]; decide
        rw [rf_cons, if_neg e1, if_pos ⟨rfl, e2⟩]
        refine Ev.step (fun _ => sprref12_pieces.j1.eq_2 ..) (Ev.pos rfl ?_)
        rw [w1, w2]
        cases t with
        | nil =>
          have h4 := end_drop h3
          have hB : B (s.extract f s.size) = cur ++ [c] := by
            rw [B_from, ← hm]
            exact (List.take_of_length_le (by rw [List.length_drop, ← size_B]; omega)).symm
          have hsz : (s.extract f s.size).size ≤ 1100000 := by rw [size_B, B_from, List.length_drop, ← size_B]; omega
          refine Ev.step (fun _ => sprref12_pieces.l0.eq_2 ..) (Ev.neg (by omega) (Ev.pos (by omega) (Ev.pos (by omega) ?_)))
          rw [Int.toNat_natCast]
          refine Ev.bind (pieceR_ok acc _ (by omega) (by omega)) (Ev.konst ?_)
          rw [hB]
        | cons d u =>
          obtain ⟨_, h5, h6⟩ := bt_drop h3
          have hm2 := take_more hm h3 (by omega)
          simp only [List.length_cons] at hn
          have := piecesR_loop s hs n u (cur ++ [c, d]) acc f (i + 2) true (by omega) h6 (by omega) (by omega) (by rw [show i + 2 - f = i + 1 + 1 - f from by omega, hm2]; simp) (by omega)
          exact this
      · rw [show ((c.toNat : Int) == 92) = false from by simpa using fun h => e2 ((u8_eq c 92 (by omega)).1 h), rf_plain _ _ _ _ (fun h => e2 h.2)]
        exact tail false (by simp) (fun h => e2 h.2)
theorem piecesR_ok (s : ByteArray) (hs : s.size ≤ 1100000) : Ev (fun k => sprref12_pieces.f k s) ((pieces (B s)).map mk) := by
  unfold sprref12_pieces.f
  have := piecesR_loop s hs (B s).length (B s) [] [] 0 0 false (Nat.le_refl _) rfl (by omega) (by omega) (by simp) (by simp)
  simpa [pieces] using this
theorem splitR_loop (v : List ByteArray) (hv : v.length ≤ 1000000) (hb : ∀ s ∈ v, s.size ≤ 1100000) : ∀ (l : List ByteArray) (i : Nat) (acc : List ByteArray), v.drop i = l → acc.length ≤ 1100001 * i → i + l.length ≤ 400 →
    Ev (fun k => sprref12_Split.l0 k v acc (i : Int)) (acc ++ (splits l).map mk)
  | [], i, acc, hl, ha, hi => by
    have := drop_nil hl
    refine Ev.step (fun _ => sprref12_Split.l0.eq_2 ..) (Ev.neg (by omega) (Ev.konst ?_))
    simp [splits]
  | s :: t, i, acc, hl, ha, hi => by
    obtain ⟨h1, h2, h3⟩ := drop_cons hl
    have hs := hb s (List.mem_of_getElem? h2)
    have hp := pieces_len (B s).length (B s) (Nat.le_refl _)
    rw [← size_B] at hp
    simp only [List.length_cons] at hi
    refine Ev.step (fun _ => sprref12_Split.l0.eq_2 ..) (Ev.pos (by omega) (Ev.pos (by omega) ?_))
    rw [rdOf_of h2]
    refine Ev.bind (piecesR_ok s hs) (Ev.pos (by rw [List.length_map]; omega) ?_)
    rw [wrap_id (by omega) (by omega), cast_succ]
    have := splitR_loop v hv hb t (i + 1) (acc ++ (pieces (B s)).map mk) h3 (by rw [List.length_append, List.length_map]; omega) (by omega)
    simpa [splits] using this
def P38 (x : Bool × List UInt8) : S38 := ⟨x.1, mk x.2⟩
theorem tagByte_ref (c : UInt8) : tagByte c = !(decide (¬ (c.toNat : Int) = 33) && (decide ((c.toNat : Int) < 35) || decide ((c.toNat : Int) > 126)) && decide ((c.toNat : Int) < 128)) := by
  have h := UInt8.toNat_lt c
  have a : (c == 34) = decide ((c.toNat : Int) = 34) := by
    by_cases e : c = 34
    · rw [e]; rfl
    · rw [beq_eq_false_iff_ne.2 e]; exact (decide_eq_false (fun h => e ((u8_eq c 34 (by omega)).1 h))).symm
  have b : (c == 127) = decide ((c.toNat : Int) = 127) := by
    by_cases e : c = 127
    · rw [e]; rfl
    · rw [beq_eq_false_iff_ne.2 e]; exact (decide_eq_false (fun h => e ((u8_eq c 127 (by omega)).1 h))).symm
  unfold tagByte
  rw [a, b]
  rw [Bool.eq_iff_iff]
  simp
  omega
theorem ParseTag_l0 (w : Bool) (s : ByteArray) (hs : s.size ≤ 1000000000) : ∀ (l : List UInt8) (i : Nat), (B s).drop i = l → Ev (fun k => sprref14_ParseTag.l0 k (i : Int) w s) (if l.all tagByte = true then (w, s, true) else (false, mk [], false))
  | [], i, hl => by
    have := end_drop hl
    exact Ev.step (fun _ => sprref14_ParseTag.l0.eq_2 ..) (Ev.neg (by omega) (Ev.now _))
  | c :: t, i, hl => by
    obtain ⟨h1, h2, h3⟩ := bt_drop hl
    have ih := ParseTag_l0 w s hs t (i + 1) h3
    refine Ev.step (fun _ => sprref14_ParseTag.l0.eq_2 ..) (Ev.pos (by omega) (Ev.pos (by omega) ?_))
    rw [h1, List.all_cons, wrap_id (by omega) (by omega), cast_succ]
    have good : tagByte c = true → Ev (fun k => sprref14_ParseTag.l0 k ((i + 1 : Nat) : Int) w s) (if (tagByte c && t.all tagByte) = true then (w, s, true) else (false, mk [], false)) := fun h => by rw [h, Bool.true_and]; exact ih
    have bad : tagByte c = false → Ev (fun _ => some (false, (⟨#[]⟩ : ByteArray), false)) (if (tagByte c && t.all tagByte) = true then (w, s, true) else (false, mk [], false)) := fun h => by rw [h, Bool.false_and, if_neg (by simp)]; exact Ev.now _
    have hr := tagByte_ref c
    by_cases a1 : (c.toNat : Int) = 33
    · exact Ev.pos a1 (good (by rw [hr]; simp [a1]))
    · refine Ev.neg a1 ?_
      by_cases a2 : (c.toNat : Int) < 35
      · refine Ev.pos a2 (Ev.pos (by omega) (bad (by rw [hr]; simp [a1, a2]; omega)))
      · refine Ev.neg a2 ?_
        by_cases a3 : (c.toNat : Int) > 126
        · refine Ev.pos a3 ?_
          by_cases a4 : (c.toNat : Int) < 128
          · exact Ev.pos a4 (bad (by rw [hr]; simp [a1, a3, a4]))
          · exact Ev.neg a4 (good (by rw [hr]; simp [a4]))
        · exact Ev.neg a3 (good (by rw [hr]; simp [a2, a3]))
theorem ParseTag_j1 (r : ByteArray) (w : Bool) (hs : r.size ≤ 1000000000) : Ev (fun k => sprref14_ParseTag.j1 k r w (⟨#[]⟩ : ByteArray)) (match tag0 (B r) with | some m => (w, mk m, true) | none => (false, mk [], false)) := by
  refine Ev.step (fun _ => sprref14_ParseTag.j1.eq_2 ..) ?_
  have none_ : Ev (fun k => sprref14_ParseTag.j2 k r true w (⟨#[]⟩ : ByteArray)) (false, mk [], false) := Ev.step (fun _ => sprref14_ParseTag.j2.eq_2 ..) (Ev.pos rfl (Ev.now _))
  by_cases h2 : (r.size : Int) < 2
  · rw [tag0_short _ (by rw [← size_B]; omega)]
    exact Ev.pos h2 none_
  · refine Ev.neg h2 (Ev.pos (by omega) ?_)
    obtain ⟨c, t, e⟩ : ∃ c t, B r = c :: t := by
      cases hc : B r with
      | nil =>
        have h0 : r.size = 0 := by rw [size_B, hc]; rfl
        omega
      | cons c t => exact ⟨c, t, rfl⟩
    have hsz : r.size = t.length + 1 := by rw [size_B, e]; simp
    have hc : bt r 0 = (c.toNat : Int) := bt_of (i := 0) (by rw [e]; rfl)
    rw [hc, e, tag0_cons]
    by_cases e1 : c = 34
    · have w1 : wrap64 ((r.size : Int) - 1) = ((t.length : Nat) : Int) := by rw [wrap_id (by omega) (by omega)]; omega
      have hne : t ≠ [] := fun h => by rw [h] at hsz; simp at hsz; omega
      obtain ⟨d, hd⟩ : ∃ d, t.getLast? = some d := ⟨_, List.getLast?_eq_some_getLast hne⟩
      have hl : bt r ((t.length : Nat) : Int) = (d.toNat : Int) := bt_of (by
        rw [e]
        rw [List.getLast?_eq_getElem?] at hd
        obtain ⟨m, hm⟩ : ∃ m, t.length = m + 1 := ⟨t.length - 1, by cases t with | nil => exact absurd rfl hne | cons _ _ => simp⟩
        rw [hm] at hd ⊢
        simpa using hd)
      rw [w1, hl]
      refine Ev.pos ((u8_eq c 34 (by omega)).2 e1) (Ev.pos (by omega) (Ev.pos (by omega) ?_))
      by_cases e2 : d = 34
      · have hB2 : B (r.extract 1 t.length) = t.dropLast := by
          rw [B_extract, e, List.dropLast_eq_take]; rfl
        have hx : r.extract 1 t.length = mk t.dropLast := B_inj (by rw [hB2]; rfl)
        have hsz2 : (mk t.dropLast).size ≤ 1000000000 := by rw [size_B, B_mk, List.length_dropLast]; omega
        rw [show ((d.toNat : Int) != 34) = false from by simpa using (u8_eq d 34 (by omega)).2 e2]
        refine Ev.step (fun _ => sprref14_ParseTag.j2.eq_2 ..) (Ev.neg (by simp) ?_)
        rw [w1, Int.toNat_natCast, hx]
        refine Ev.pos (by omega) (Ev.pos (by omega) ?_)
        have := ParseTag_l0 w (mk t.dropLast) hsz2 (B (mk t.dropLast)) 0 rfl
        rw [B_mk] at this
        by_cases e3 : t.dropLast.all tagByte = true
        · rw [if_pos ⟨e1, hne, by rw [hd, e2], e3⟩]
          rw [if_pos e3] at this; exact this
        · rw [if_neg (fun h => e3 h.2.2.2)]
          rw [if_neg e3] at this; exact this
      · rw [if_neg (fun h => e2 (by have := h.2.2.1; rw [hd] at this; exact Option.some.inj this)), show ((d.toNat : Int) != 34) = true from by simpa using fun h => e2 ((u8_eq d 34 (by omega)).1 h)]
        exact none_
    · rw [if_neg (fun h => e1 h.1)]
      exact Ev.neg (fun h => e1 ((u8_eq c 34 (by omega)).1 h)) none_
theorem ParseTag_ok (s : ByteArray) (hs : s.size ≤ 1000000000) : Ev (fun k => sprref14_ParseTag.f k s) (tagR (tagOf (B s))) := by
  unfold sprref14_ParseTag.f
  have out : ∀ w l, tagR (match tag0 l with | some m => (w, m, true) | none => (false, [], false)) = (match tag0 l with | some m => (w, mk m, true) | none => (false, mk [], false)) := by
    intro w l; cases tag0 l <;> rfl
  by_cases h : (s.size : Int) > 4000
  · unfold tagOf
    rw [if_pos (by rw [← size_B]; omega)]
    exact Ev.pos h (Ev.now _)
  · unfold tagOf
    rw [if_neg (by rw [← size_B]; omega), out]
    refine Ev.neg h ?_
    have same : ∀ b, b = tagW (B s) → Ev (fun k => sprref14_ParseTag.j0 k s b false (⟨#[]⟩ : ByteArray)) (match tag0 (if tagW (B s) = true then (B s).drop 2 else B s) with | some m => (tagW (B s), mk m, true) | none => (false, mk [], false)) := by
      intro b hb
      refine Ev.step (fun _ => sprref14_ParseTag.j0.eq_2 ..) ?_
      by_cases hw : tagW (B s) = true
      · have h2 : 2 ≤ s.size := by
          rw [size_B]
          by_cases h2 : 2 ≤ (B s).length
          · exact h2
          · rw [tagW_short (by omega)] at hw; cases hw
        rw [if_pos hw]
        refine Ev.pos (by rw [hb]; exact hw) (Ev.pos (by omega) ?_)
        have hsz : (s.extract 2 s.size).size ≤ 1000000000 := by rw [size_B, B_from, List.length_drop, ← size_B]; omega
        have := ParseTag_j1 (s.extract 2 s.size) true hsz
        rw [B_from] at this
        rw [hw]; exact this
      · rw [if_neg hw]
        refine Ev.neg (by rw [hb]; exact hw) ?_
        have := ParseTag_j1 s false hs
        rw [show tagW (B s) = false from by simpa using hw]; exact this
    by_cases h2 : (s.size : Int) > 2
    · refine Ev.pos h2 (Ev.pos (by omega) (Ev.pos (by omega) (same _ ?_)))
      rw [toList_B, B_to]; rfl
    · refine Ev.neg h2 ?_
      by_cases hw : tagW (B s) = true
      · have hl : B s = [87, 47] := by
          have : (B s).take 2 = [87, 47] := by unfold tagW at hw; exact eq_of_beq hw
          rw [List.take_of_length_le (by rw [← size_B]; omega)] at this
          exact this
        refine Ev.step (fun _ => sprref14_ParseTag.j0.eq_2 ..) (Ev.neg (by simp) ?_)
        have := ParseTag_j1 s false hs
        rw [hl] at this ⊢
        exact this
      · exact same false (by simpa using hw)
theorem tagsR_loop (v : List ByteArray) (hv : v.length ≤ 1000000000) (hb : ∀ s ∈ v, s.size ≤ 1000000000) : ∀ (l : List ByteArray) (i : Nat) (acc : List S38), v.drop i = l → acc.length ≤ i →
    Ev (fun k => sprref14_Tags.l0 k v acc (i : Int)) (match tgs (l.map B) with | some m => (acc ++ m.map P38, false, decide (((acc ++ m.map P38).length : Int) > 0)) | none => ([], false, false))
  | [], i, acc, hl, ha => by
    have := drop_nil hl
    refine Ev.step (fun _ => sprref14_Tags.l0.eq_2 ..) (Ev.neg (by omega) (Ev.konst ?_))
    simp [tgs]
  | s :: t, i, acc, hl, ha => by
    obtain ⟨h2, h3, h4⟩ := drop_cons hl
    have hs := hb s (List.mem_of_getElem? h3)
    refine Ev.step (fun _ => sprref14_Tags.l0.eq_2 ..) (Ev.pos (by omega) (Ev.pos (by omega) ?_))
    rw [rdOf_of h3, List.map_cons, tgs]
    refine Ev.bind (ParseTag_ok s hs) ?_
    by_cases h : (tagOf (B s)).2.2 = true
    · rw [if_pos h]
      refine Ev.pos h (Ev.pos (by omega) ?_)
      rw [wrap_id (by omega) (by omega), cast_succ]
      have e0 : (⟨(tagR (tagOf (B s))).1, (tagR (tagOf (B s))).2.1⟩ : S38) = P38 ((tagOf (B s)).1, (tagOf (B s)).2.1) := rfl
      rw [e0]
      have := tagsR_loop v hv hb t (i + 1) (acc ++ [P38 ((tagOf (B s)).1, (tagOf (B s)).2.1)]) h4 (by simp only [List.length_append, List.length_cons, List.length_nil]; omega)
      cases e : tgs (t.map B) with
      | none => rw [e] at this; simpa using this
      | some m => rw [e] at this; simpa using this
    · rw [if_neg h]
      exact Ev.neg h (Ev.now _)
theorem map_B_mk' (l : List (List UInt8)) : (l.map mk).map B = l := by
  rw [List.map_map]
  have : (B ∘ mk) = id := funext fun x => B_mk x
  rw [this, List.map_id]
theorem Tags_ok (v : List ByteArray) (hv : v.length ≤ 400) (hb : ∀ s ∈ v, s.size ≤ 1100000) (hp : (splits v).length ≤ 1000000000) (hq : ∀ x ∈ splits v, x.length ≤ 1000000000) : Ev (fun k => sprref14_Tags.f k v) (tagsOf P38 (splits v)) := by
  unfold sprref14_Tags.f
  have hS : Ev (fun k => sprref12_Split.f k v) ((splits v).map mk) := by
    unfold sprref12_Split.f
    have := splitR_loop v (by omega) hb v 0 [] rfl (by simp) (by omega)
    simpa using this
  obtain ⟨s1, s2⟩ := star_head (splits v) ByteArray.empty _ rfl
  have tail : star (splits v) = false → Ev (fun k => sprref14_Tags.l0 k ((splits v).map mk) [] 0) (tagsOf P38 (splits v)) := by
    intro hst
    have := tagsR_loop ((splits v).map mk) (by rw [List.length_map]; exact hp) (fun s hs => by
      obtain ⟨x, hx, rfl⟩ := List.mem_map.1 hs
      rw [size_B, B_mk]; exact hq x hx) ((splits v).map mk) 0 [] rfl (by simp)
    rw [map_B_mk'] at this
    unfold tagsOf
    rw [if_neg (by rw [hst]; simp)]
    exact this
  refine Ev.bind hS ?_
  by_cases h1 : (((splits v).map mk).length : Int) = 1
  · refine Ev.pos h1 (Ev.pos (by omega) ?_)
    rw [s1 (by omega)]
    refine Ev.step (fun _ => sprref14_Tags.j0.eq_2 ..) ?_
    by_cases hst : star (splits v) = true
    · refine Ev.pos hst (Ev.konst ?_)
      unfold tagsOf; rw [if_pos hst]
    · exact Ev.neg hst (tail (by simpa using hst))
  · refine Ev.neg h1 (Ev.step (fun _ => sprref14_Tags.j0.eq_2 ..) (Ev.neg (by simp) (tail (s2 (by omega)))))
theorem PrintTag_ok (w : Bool) (m : ByteArray) (hm : m.size ≤ 1000000) : Ev (fun k => sprref14_PrintTag.f k w m) (prtR w (B m)) := by
  unfold sprref14_PrintTag.f
  have e1 : ((⟨#[34]⟩ : ByteArray) ++ m).size = 1 + m.size := by rw [size_B, B_append, List.length_append, ← size_B, ← size_B]; rfl
  have e2 : (((⟨#[34]⟩ : ByteArray) ++ m) ++ (⟨#[34]⟩ : ByteArray)).size = 2 + m.size := by rw [size_B, B_append, List.length_append, ← size_B, ← size_B, e1]; show 1 + m.size + 1 = _; omega
  have b2 : B (((⟨#[34]⟩ : ByteArray) ++ m) ++ (⟨#[34]⟩ : ByteArray)) = 34 :: B m ++ [34] := by rw [B_append, B_append]; rfl
  refine Ev.pos (by omega) (Ev.pos (by omega) ?_)
  cases w with
  | true =>
    have b3 : B ((⟨#[87, 47]⟩ : ByteArray) ++ (((⟨#[34]⟩ : ByteArray) ++ m) ++ (⟨#[34]⟩ : ByteArray))) = prt true (B m) := by rw [B_append, b2]; rfl
    have e3 : ((⟨#[87, 47]⟩ : ByteArray) ++ (((⟨#[34]⟩ : ByteArray) ++ m) ++ (⟨#[34]⟩ : ByteArray))).size ≤ 1000000000 := by rw [size_B, b3]; simp [prt, ← size_B]; omega
    have hx : (⟨#[87, 47]⟩ : ByteArray) ++ (((⟨#[34]⟩ : ByteArray) ++ m) ++ (⟨#[34]⟩ : ByteArray)) = mk (prt true (B m)) := B_inj (by rw [b3]; rfl)
    refine Ev.pos rfl (Ev.pos (by omega) ?_)
    rw [hx] at e3 ⊢
    refine Ev.bind (ParseTag_ok _ e3) ?_
    rw [B_mk]
    unfold prtR
    by_cases h : (tagOf (prt true (B m))).2.2 = true
    · rw [if_pos h]; exact Ev.pos h (Ev.now _)
    · rw [if_neg h]; exact Ev.neg h (Ev.now _)
  | false =>
    have hx : (((⟨#[34]⟩ : ByteArray) ++ m) ++ (⟨#[34]⟩ : ByteArray)) = mk (prt false (B m)) := B_inj (by rw [b2]; rfl)
    have e3 := e2
    rw [hx] at e3
    refine Ev.neg (by simp) ?_
    rw [hx]
    refine Ev.bind (ParseTag_ok _ (by omega)) ?_
    rw [B_mk]
    unfold prtR
    by_cases h : (tagOf (prt false (B m))).2.2 = true
    · rw [if_pos h]; exact Ev.pos h (Ev.now _)
    · rw [if_neg h]; exact Ev.neg h (Ev.now _)
/-- The values' guard: what it tells of their number. -/
theorem texts_fin (v : List ByteArray) (n : Int) : ∃ b, Ev (fun _ => if (v.length : Int) ≤ 80 then some (decide (n ≤ 20000)) else some false) b ∧ (b = true → v.length ≤ 80) := by
  by_cases h : (v.length : Int) ≤ 80
  · exact ⟨_, Ev.pos h (Ev.now _), fun _ => by omega⟩
  · exact ⟨false, Ev.neg h (Ev.now _), fun h => by cases h⟩
theorem texts_loop (v : List ByteArray) (hv : v.length ≤ 1000000000) (hb : ∀ s ∈ v, s.size ≤ 1000000000) : ∀ (l : List ByteArray) (i : Nat) (n : Int), v.drop i = l → 0 ≤ n → n ≤ 80000 → ∃ b, Ev (fun k => sprlaw16_texts.l0 k v n (i : Int)) b ∧ (b = true → v.length ≤ 80)
  | [], i, n, hl, h0, h1 => by
    obtain ⟨b, hE, hT⟩ := texts_fin v n
    have := drop_nil hl
    exact ⟨b, Ev.step (fun _ => sprlaw16_texts.l0.eq_2 ..) (Ev.neg (by omega) hE), hT⟩
  | s :: t, i, n, hl, h0, h1 => by
    obtain ⟨h2, h3, h4⟩ := drop_cons hl
    by_cases h80 : (i : Int) < 80
    · have hs := hb s (List.mem_of_getElem? h3)
      have m0 : 0 ≤ mn (s.size : Int) 20000 ∧ mn (s.size : Int) 20000 ≤ 20000 := by unfold mn; split <;> omega
      have w1 : wrap64 (n + mn (s.size : Int) 20000) = n + mn (s.size : Int) 20000 := wrap_id (by omega) (by omega)
      have m1 : 0 ≤ mn (n + mn (s.size : Int) 20000) 80000 ∧ mn (n + mn (s.size : Int) 20000) 80000 ≤ 80000 := by
        generalize mn (s.size : Int) 20000 = z at *
        unfold mn; split <;> omega
      obtain ⟨b', hE', hT'⟩ := texts_loop v hv hb t (i + 1) _ h4 m1.1 m1.2
      refine ⟨b', Ev.step (fun _ => sprlaw16_texts.l0.eq_2 ..) (Ev.pos (by omega) (Ev.pos h80 (Ev.pos (by omega) ?_))), hT'⟩
      rw [rdOf_of h3, w1, wrap_id (x := (i : Int) + 1) (by omega) (by omega), cast_succ]
      exact hE'
    · obtain ⟨b, hE, hT⟩ := texts_fin v n
      exact ⟨b, Ev.step (fun _ => sprlaw16_texts.l0.eq_2 ..) (Ev.pos (by omega) (Ev.neg h80 hE)), hT⟩
theorem texts_ok (v : List ByteArray) (hv : v.length ≤ 1000000000) (hb : ∀ s ∈ v, s.size ≤ 1000000000) : ∃ b, Ev (fun k => sprlaw16_texts.f k v) b ∧ (b = true → v.length ≤ 80) := by
  unfold sprlaw16_texts.f
  exact texts_loop v hv hb v 0 0 rfl (by omega) (by omega)
theorem Texts_loop (a b : List ByteArray) (hl : a.length = b.length) (hb : a.length ≤ 1000000000) : ∀ (s t : List ByteArray) (i : Nat), a.drop i = s → b.drop i = t → Ev (fun k => sprref_Texts.l0 k a b i) (decide (s = t))
  | [], t, i, hs, ht => by
    have h1 := drop_nil hs
    have h2 : t = [] := by rw [← ht]; exact List.drop_eq_nil_of_le (by omega)
    subst h2
    exact Ev.step (fun _ => sprref_Texts.l0.eq_2 ..) (Ev.neg (by omega) (Ev.now _))
  | c :: s, [], i, hs, ht => by
    have h1 := drop_nil ht
    have h2 := drop_cons hs
    omega
  | c :: s, d :: t, i, hs, ht => by
    obtain ⟨h1, h2, h3⟩ := drop_cons hs
    obtain ⟨g1, g2, g3⟩ := drop_cons ht
    refine Ev.step (fun _ => sprref_Texts.l0.eq_2 ..) (Ev.pos (by omega) (Ev.pos (by omega) (Ev.pos (by omega) ?_)))
    rw [rdOf_of h2, rdOf_of g2, toList_B, toList_B]
    by_cases e : c = d
    · refine Ev.pos (by rw [e]) ?_
      rw [wrap_id (by omega) (by omega), cast_succ]
      have := Texts_loop a b hl hb s t (i + 1) h3 g3
      simpa [e] using this
    · refine Ev.neg (fun h => e (B_inj h)) ?_
      exact Ev.konst (by simp [e])
theorem Texts_ok (a b : List ByteArray) (hb : a.length ≤ 1000000000) : Ev (fun k => sprref_Texts.f k a b) (decide (a = b)) := by
  unfold sprref_Texts.f
  by_cases h : a.length = b.length
  · exact Ev.pos (by omega) (Texts_loop a b h hb a b 0 rfl rfl)
  · refine Ev.neg (by omega) (Ev.konst ?_)
    have : a ≠ b := fun e => h (by rw [e])
    simp [this]
theorem CopyTexts_ok (l : List ByteArray) (h : l.length ≤ 1000000000) : sprref_CopyTexts.f l = some l := by
  unfold sprref_CopyTexts.f
  simp only [Option.bind_some, List.length_nil, Nat.zero_add, List.nil_append]
  rw [if_pos (by omega)]
theorem first_ok : Ev (fun k => sprlaw16_first.f k) true := Ev.of (fun k => sprlaw16_first.mono k) (k := 60) (by kernel_rfl)
theorem sum_size : ∀ (l : List ByteArray), l.length ≤ (l.map fun y => (y.size + 1)).sum ∧ ∀ s ∈ l, s.size + 1 ≤ (l.map fun y => (y.size + 1)).sum
  | [] => by simp
  | x :: t => by
    obtain ⟨h1, h2⟩ := sum_size t
    simp only [List.map_cons, List.sum_cons, List.length_cons]
    refine ⟨by omega, fun s hs => ?_⟩
    rcases List.mem_cons.1 hs with rfl | hs
    · omega
    · have := h2 s hs; omega
theorem pieces_small : ∀ (n : Nat) (l : List UInt8), l.length ≤ n → ∀ x ∈ pieces l, x.length ≤ l.length
  | 0, l, h => by
    have : l = [] := by cases l <;> simp_all
    subst this; rw [pieces_nil]; simp
  | n + 1, l, h => by
    intro x hx
    rw [pieces_pc l] at hx
    rcases List.mem_append.1 hx with hx | hx
    · unfold one at hx
      split at hx
      · simp at hx
      · have e : x = tr (l.take (pc false l)) := by simpa using hx
        have h1 := tr_len (l.take (pc false l))
        have h2 := List.length_take_le (pc false l) l
        have h3 := pc_le l false
        rw [e]
        rw [List.length_take] at h1 h2
        omega
    · split at hx
      · have := pieces_small n (l.drop (pc false l + 1)) (by rw [List.length_drop]; omega) x hx
        rw [List.length_drop] at this; omega
      · simp at hx
theorem splits_small (v : List ByteArray) (hb : ∀ s ∈ v, s.size ≤ 1048576) : ∀ x ∈ splits v, x.length ≤ 1048576 := by
  intro x hx
  obtain ⟨s, hs, hx⟩ := List.mem_flatMap.1 hx
  have h1 := pieces_small _ (B s) (Nat.le_refl _) x hx
  have h2 := hb s hs
  rw [size_B] at h2; omega
theorem splits_few : ∀ (v : List ByteArray), (splits v).length ≤ (v.map fun y => (y.size + 1)).sum
  | [] => by simp [splits]
  | s :: t => by
    have h1 := splits_few t
    have h2 := pieces_len (B s).length (B s) (Nat.le_refl _)
    rw [← size_B] at h2
    simp only [splits, List.flatMap_cons, List.length_append, List.map_cons, List.sum_cons] at h1 ⊢
    omega
theorem reads_l0 (a1 : Bool) (a2 : ByteArray) (b1 : Bool) (b2 : ByteArray) (p : Bool × ByteArray × Bool) (q : ByteArray × Bool) (m : List (Bool × List UInt8)) (hm : m.length ≤ 1000000000) : ∀ (l : List (Bool × List UInt8)) (i : Nat), m.drop i = l →
    Ev (fun k => sprlaw16_EtagReads.l0 k p.2.2 p.2.2 q.1 q.2 q.1 q.2 (m.map P23) (m.map P38) (i : Int) a1 a2 b1 b2 p.1 p.2.1 p.1 p.2.1) true
  | [], i, hl => by
    have := drop_nil hl
    obtain ⟨K, hK⟩ := first_ok
    refine Ev.step (fun _ => sprlaw16_EtagReads.l0.eq_2 ..) (Ev.neg (by rw [List.length_map]; omega) ⟨K, fun k hk => ?_⟩)
    simp only [sprlaw16_Plain.f, etag_Strong.f, sprref14_Strong.f, etag_Weak.f, sprref14_Weak.f, Option.bind_some]
    have hf := hK k hk
    simp only at hf
    rw [hf]
    cases a1 <;> cases b1 <;> simp
  | x :: t, i, hl => by
    obtain ⟨h1, h2, h3⟩ := drop_cons hl
    have ih := reads_l0 a1 a2 b1 b2 p q m hm t (i + 1) h3
    have r1 : rd_T23 (m.map P23) (i : Int) = P23 x := by
      unfold rd_T23; rw [Int.toNat_natCast, List.getD_eq_getElem?_getD, List.getElem?_map, h2]; rfl
    have r2 : rd_T38 (m.map P38) (i : Int) = P38 x := by
      unfold rd_T38; rw [Int.toNat_natCast, List.getD_eq_getElem?_getD, List.getElem?_map, h2]; rfl
    refine Ev.step (fun _ => sprlaw16_EtagReads.l0.eq_2 ..) (Ev.pos (by rw [List.length_map]; omega) (Ev.pos (by omega) ?_))
    rw [r1, r2]
    refine Ev.bnd (a := (x.1, mk x.2)) rfl (Ev.pos (by rw [List.length_map]; omega) (Ev.neg (by simp [P38]) ?_))
    rw [wrap_id (by omega) (by omega), cast_succ]
    exact ih
theorem EtagReads (s : ByteArray) (a1 : Bool) (a2 : ByteArray) (b1 : Bool) (b2 : ByteArray) (v : List ByteArray) (_ : s.size ≤ maxLen) (_ : True ∧ a2.size ≤ maxLen) (_ : True ∧ b2.size ≤ maxLen) (_ : v.length ≤ maxLen ∧ ∀ x ∈ v, x.size ≤ maxLen)
    (hk : (s.size + 1) + (1 + (a2.size + 1) + 1) + (1 + (b2.size + 1) + 1) + ((v.map fun y => (y.size + 1)).sum + 1) ≤ 1048576) : ∃ k, sprlaw16_EtagReads.f k s a1 a2 b1 b2 v = some true := by
  refine Ev.rounds ?_
  unfold sprlaw16_EtagReads.f
  obtain ⟨hv1, hv2⟩ := sum_size v
  have hb : ∀ x ∈ v, x.size ≤ 1000000000 := fun x hx => by have := hv2 x hx; omega
  refine Ev.bind first_ok (Ev.pos rfl ?_)
  have big : Ev (fun k => sprlaw16_EtagReads.j0 k s v true a1 a2 b1 b2) true := Ev.step (fun _ => sprlaw16_EtagReads.j0.eq_2 ..) (Ev.pos rfl (Ev.bind first_ok (Ev.now _)))
  by_cases h1 : (s.size : Int) > 20000
  · exact Ev.pos h1 big
  refine Ev.neg h1 ?_
  by_cases h2 : (a2.size : Int) > 20000
  · exact Ev.pos h2 big
  refine Ev.neg h2 ?_
  by_cases h3 : (b2.size : Int) > 20000
  · exact Ev.pos h3 big
  refine Ev.neg h3 ?_
  obtain ⟨b, hT, hT2⟩ := texts_ok v (by omega) hb
  refine Ev.bind hT ?_
  cases b with
  | false => exact big
  | true =>
    have h80 := hT2 rfl
    have hc : sprref_CopyTexts.f v = some v := CopyTexts_ok v (by omega)
    have hb6 : ∀ x ∈ v, x.size ≤ 1048576 := fun x hx => by have := hv2 x hx; omega
    have hL := List_ok v (by omega) (fun x hx => by have := hb6 x hx; omega) (by have := splits_few v; omega) (fun x hx => by have := splits_small v hb6 x hx; omega)
    have hG := Tags_ok v (by omega) (fun x hx => by have := hb6 x hx; omega) (by have := splits_few v; omega) (fun x hx => by have := splits_small v hb6 x hx; omega)
    have fin : ∀ m : List (Bool × List UInt8), m.length ≤ 1000000000 → ∀ c, c = false → Ev (fun k => sprlaw16_EtagReads.j1 k (tagR (tagOf (B s))).2.2 (tagR (tagOf (B s))).2.2 (prtR a1 (B a2)).1 (prtR a1 (B a2)).2 (prtR a1 (B a2)).1 (prtR a1 (B a2)).2 (m.map P23) (m.map P38) c a1 a2 b1 b2 (tagR (tagOf (B s))).1 (tagR (tagOf (B s))).2.1 (tagR (tagOf (B s))).1 (tagR (tagOf (B s))).2.1) true := by
      intro m hm c hc
      subst hc
      exact Ev.step (fun _ => sprlaw16_EtagReads.j1.eq_2 ..) (Ev.neg (by simp) (reads_l0 a1 a2 b1 b2 _ _ m hm m 0 rfl))
    refine Ev.step (fun _ => sprlaw16_EtagReads.j0.eq_2 ..) (Ev.neg (by simp) (Ev.bnd hc (Ev.bind (Parse_ok s (by omega)) (Ev.bind (ParseTag_ok s (by omega)) (Ev.bind (Print_ok a1 a2 (by omega)) (Ev.bnd (a := (a1, a2)) rfl (Ev.bind (PrintTag_ok a1 a2 (by omega)) (Ev.bind hL (Ev.bind hG ?_)))))))))
    have htx : Ev (fun k => sprref_Texts.f k v v) true := by
      have := Texts_ok v v (by omega)
      simpa using this
    by_cases hst : star (splits v) = true
    · have t1 : tagsOf P23 (splits v) = ([], true, true) := by unfold tagsOf; rw [if_pos hst]
      have t2 : tagsOf P38 (splits v) = ([], true, true) := by unfold tagsOf; rw [if_pos hst]
      rw [t1, t2]
      exact Ev.pos rfl (Ev.neg (by simp) (Ev.neg (by simp) (Ev.bind htx (fin [] (by simp) _ rfl))))
    · cases hm : tgs (splits v) with
      | none =>
        have t1 : tagsOf P23 (splits v) = ([], false, false) := by unfold tagsOf; rw [if_neg hst, hm]
        have t2 : tagsOf P38 (splits v) = ([], false, false) := by unfold tagsOf; rw [if_neg hst, hm]
        rw [t1, t2]
        exact Ev.pos rfl (Ev.neg (by simp) (Ev.neg (by simp) (Ev.bind htx (fin [] (by simp) _ rfl))))
      | some m =>
        have hml := tgs_len _ _ hm
        have hfw := splits_few v
        have t1 : tagsOf P23 (splits v) = (m.map P23, false, decide (((m.map P23).length : Int) > 0)) := by unfold tagsOf; rw [if_neg hst, hm]
        have t2 : tagsOf P38 (splits v) = (m.map P38, false, decide (((m.map P38).length : Int) > 0)) := by unfold tagsOf; rw [if_neg hst, hm]
        rw [t1, t2]
        exact Ev.pos (by simp) (Ev.neg (by simp) (Ev.neg (by simp) (Ev.bind htx (fin m (by omega) _ rfl))))

end Go.Proofs.YtalmcjdlfppkdaaDoor.Pure
