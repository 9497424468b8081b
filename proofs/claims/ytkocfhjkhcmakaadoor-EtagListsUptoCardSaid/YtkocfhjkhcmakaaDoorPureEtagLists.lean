/-
The law EtagLists: a list of printed tags is read as a list; with one that is none it is none; a star among others is none; nothing is none.
-/
import Derived.Test.YtkocfhjkhcmakaaDoorQ3
set_option linter.unusedVariables false
set_option linter.unusedSimpArgs false
namespace Go.Proofs.YtkocfhjkhcmakaaDoor.Pure
open Go.RowKit Go.Proofs.YtkocfhjkhcmakaaDoor.Q Go.Proofs.YtkocfhjkhcmakaaDoorW.PrintWords Go.Proofs.YtkocfhjkhcmakaaDoorW.PrintLast
theorem wrap_id {x : Int} (h0 : -9223372036854775808 ≤ x) (h1 : x ≤ 9223372036854775807) : wrap64 x = x := by unfold wrap64; omega
theorem Ev.succ {α : Type} {g : Nat → Option α} {r : α} (h : Ev (fun k => g (k + 1)) r) : Ev g r := Ev.step (fun _ => rfl) h
theorem Ev.konst {α : Type} {o : Option α} {r : α} (h : o = some r) : Ev (fun _ => o) r := ⟨0, fun _ _ => h⟩
theorem Ev.at {α : Type} {g : Nat → Option α} {r : α} (K : Nat) (h : ∀ k, g (k + K) = some r) : Ev g r := ⟨K, fun n hn => by
  obtain ⟨m, rfl⟩ : ∃ m, n = m + K := ⟨n - K, by omega⟩
  exact h m⟩
theorem drop_cons {α : Type} {l : List α} {i : Nat} {c : α} {t : List α} (h : l.drop i = c :: t) : i < l.length ∧ l[i]? = some c ∧ l.drop (i + 1) = t := by
  have h1 : (l.drop i)[0]? = some c := by rw [h]; rfl
  rw [List.getElem?_drop] at h1
  simp only [Nat.add_zero] at h1
  refine ⟨(List.getElem?_eq_some_iff.1 h1).1, h1, ?_⟩
  rw [← List.drop_drop, h]; rfl
theorem drop_nil {α : Type} {l : List α} {i : Nat} (h : l.drop i = []) : l.length ≤ i := by
  simpa using h
theorem rd_of {l : List Int} {i : Nat} {c : Int} (h : l[i]? = some c) : rd l (i : Int) = c := by
  unfold rd; rw [Int.toNat_natCast, List.getD_eq_getElem?_getD, h]; rfl
theorem rdOf_of {α : Type} {d : α} {l : List α} {i : Nat} {c : α} (h : l[i]? = some c) : rdOf d l (i : Int) = c := by
  unfold rdOf; rw [Int.toNat_natCast, List.getD_eq_getElem?_getD, h]; rfl
theorem cast_succ (i : Nat) : ((i : Int) + 1) = ((i + 1 : Nat) : Int) := by omega
theorem Ev.pos {α : Type} {c : Prop} [Decidable c] {A B : Nat → Option α} {r : α} (h : c) (k : Ev A r) : Ev (fun n => if c then A n else B n) r := Ev.congr (fun _ => if_pos h) k
theorem Ev.neg {α : Type} {c : Prop} [Decidable c] {A B : Nat → Option α} {r : α} (h : ¬ c) (k : Ev B r) : Ev (fun n => if c then A n else B n) r := Ev.congr (fun _ => if_neg h) k
theorem Ev.bnd {α β : Type} {o : Option β} {a : β} {f : Nat → β → Option α} {r : α} (h : o = some a) (k : Ev (fun n => f n a) r) : Ev (fun n => o.bind (f n)) r := by
  subst h; exact k
/-- A text's bytes. -/
def B (s : ByteArray) : List UInt8 := s.data.toList
def mk (l : List UInt8) : ByteArray := ⟨l.toArray⟩
theorem B_mk (l : List UInt8) : B (mk l) = l := rfl
theorem mk_B (s : ByteArray) : mk (B s) = s := rfl
theorem B_inj {s t : ByteArray} (h : B s = B t) : s = t := by rw [← mk_B s, ← mk_B t, h]
theorem toList_B (s : ByteArray) : s.toList = B s := Lib.toList_data s
theorem size_B (s : ByteArray) : s.size = (B s).length := Lib.size_eq s
theorem B_extract (s : ByteArray) (a b : Nat) : B (s.extract a b) = ((B s).drop a).take (b - a) := Lib.extract_data s a b
theorem B_append (s t : ByteArray) : B (s ++ t) = B s ++ B t := by
  unfold B
  rw [ByteArray.data_append, Array.toList_append]
theorem B_to (s : ByteArray) (n : Nat) : B (s.extract 0 n) = (B s).take n := by rw [B_extract, List.drop_zero, Nat.sub_zero]
theorem B_from (s : ByteArray) (n : Nat) : B (s.extract n s.size) = (B s).drop n := by
  rw [B_extract, size_B]
  exact List.take_of_length_le (by rw [List.length_drop]; omega)
theorem bt_of {s : ByteArray} {i : Nat} {c : UInt8} (h : (B s)[i]? = some c) : bt s (i : Int) = (c.toNat : Int) := by
  unfold bt
  have hi : i < s.size := by rw [size_B]; exact (List.getElem?_eq_some_iff.1 h).1
  rw [Int.toNat_natCast, dif_pos hi]
  have : (s[i]'hi) = c := by
    have h1 : (B s)[i]? = some (s[i]'hi) := by
      unfold B
      rw [Array.getElem?_toList]
      exact Array.getElem?_eq_getElem _
    rw [h1] at h
    exact Option.some.inj h
  rw [this]
/-- The byte that a suffix begins with. -/
theorem bt_drop {s : ByteArray} {i : Nat} {c : UInt8} {t : List UInt8} (h : (B s).drop i = c :: t) : bt s (i : Int) = (c.toNat : Int) ∧ i < s.size ∧ (B s).drop (i + 1) = t := by
  obtain ⟨h1, h2, h3⟩ := drop_cons h
  exact ⟨bt_of h2, by rw [size_B]; exact h1, h3⟩
theorem end_drop {s : ByteArray} {i : Nat} (h : (B s).drop i = []) : s.size ≤ i := by rw [size_B]; exact drop_nil h
theorem u8_eq (c : UInt8) (n : Nat) (h : n < 256) : ((c.toNat : Int) = (n : Int)) ↔ c = UInt8.ofNat n := by
  constructor
  · intro e
    have e' : c.toNat = n := by omega
    rw [← e']; exact (UInt8.ofNat_toNat).symm
  · intro e
    rw [e, UInt8.toNat_ofNat']
    have : n % 2 ^ 8 = n := Nat.mod_eq_of_lt h
    omega
theorem u8_lt (c : UInt8) : (c.toNat : Int) < 256 ∧ 0 ≤ (c.toNat : Int) := by
  have := UInt8.toNat_lt c
  omega
def blank (c : UInt8) : Bool := ([32, 9] : List UInt8).contains c
/-- Blanks and tabs at both ends away. -/
def tr (l : List UInt8) : List UInt8 := Lib.trimS l [32, 9]
def rdw (p : UInt8 → Bool) (l : List UInt8) : List UInt8 := (l.reverse.dropWhile p).reverse
theorem rdw_cons (p : UInt8 → Bool) (x : UInt8) (t : List UInt8) : rdw p (x :: t) = if rdw p t = [] then (if p x = true then [] else [x]) else x :: rdw p t := by
  unfold rdw
  rw [List.reverse_cons, List.dropWhile_append]
  by_cases h : (t.reverse.dropWhile p) = []
  · rw [h]
    by_cases hx : p x = true <;> simp [hx, List.dropWhile]
  · have h' : ¬ (t.reverse.dropWhile p).reverse = [] := fun e => h (List.reverse_eq_nil_iff.1 e)
    rw [if_neg h', if_neg (by simpa using h)]
    simp
theorem rdw_comm (p : UInt8 → Bool) : ∀ l : List UInt8, (rdw p l).dropWhile p = rdw p (l.dropWhile p)
  | [] => rfl
  | x :: t => by
    have ih := rdw_comm p t
    by_cases hx : p x = true
    · rw [List.dropWhile_cons, if_pos hx, ← ih, rdw_cons]
      by_cases h : rdw p t = []
      · rw [if_pos h, if_pos hx, h]
      · rw [if_neg h, List.dropWhile_cons, if_pos hx]
    · rw [List.dropWhile_cons, if_neg hx, rdw_cons]
      by_cases h : rdw p t = []
      · rw [if_pos h, if_neg hx, List.dropWhile_cons, if_neg hx]
      · rw [if_neg h, List.dropWhile_cons, if_neg hx]
theorem tr_eq (l : List UInt8) : tr l = rdw blank (l.dropWhile blank) := by
  rw [← rdw_comm]; rfl
theorem tr_nil : tr [] = [] := rfl
theorem length_dropWhile_le (p : UInt8 → Bool) : ∀ l : List UInt8, (l.dropWhile p).length ≤ l.length
  | [] => Nat.le_refl _
  | x :: t => by
    rw [List.dropWhile_cons]
    have := length_dropWhile_le p t
    split <;> simp only [List.length_cons] <;> omega
theorem tr_len (l : List UInt8) : (tr l).length ≤ l.length := by
  rw [tr_eq]
  unfold rdw
  have h1 := length_dropWhile_le blank (l.dropWhile blank).reverse
  have h2 := length_dropWhile_le blank l
  simp only [List.length_reverse] at h1 ⊢
  omega
/-- Nothing blank at the ends: it stays. -/
theorem dropWhile_idem (p : UInt8 → Bool) : ∀ l : List UInt8, (l.dropWhile p).dropWhile p = l.dropWhile p
  | [] => rfl
  | x :: t => by
    by_cases hx : p x = true
    · rw [List.dropWhile_cons, if_pos hx]; exact dropWhile_idem p t
    · rw [List.dropWhile_cons, if_neg hx, List.dropWhile_cons, if_neg hx]
theorem tr_tr (l : List UInt8) : tr (tr l) = tr l := by
  have e : ∀ m, tr m = (rdw blank m).dropWhile blank := fun m => by rw [tr_eq, rdw_comm]
  have r2 : ∀ m, rdw blank (rdw blank m) = rdw blank m := fun m => by unfold rdw; rw [List.reverse_reverse, dropWhile_idem]
  rw [e (tr l), tr_eq l, r2, rdw_comm, dropWhile_idem]
def tagByte (c : UInt8) : Bool := !(decide (c.toNat < 33) || c == 34 || c == 127)
/-- The tag that a text without the sign of weakness is. -/
def tag0 (l : List UInt8) : Option (List UInt8) :=
  match l with
  | [] => none
  | c :: t => if c = 34 ∧ t ≠ [] ∧ t.getLast? = some 34 ∧ t.dropLast.all tagByte = true then some t.dropLast else none
def tagW (l : List UInt8) : Bool := l.take 2 == [87, 47]
/-- The tag that a text is. -/
def tagOf (l : List UInt8) : Bool × List UInt8 × Bool :=
  if l.length > 4000 then (false, [], false)
  else match tag0 (if tagW l = true then l.drop 2 else l) with
    | some m => (tagW l, m, true)
    | none => (false, [], false)
def tagR (r : Bool × List UInt8 × Bool) : Bool × ByteArray × Bool := (r.1, mk r.2.1, r.2.2)
theorem tag0_short (l : List UInt8) (h : l.length < 2) : tag0 l = none := by
  match l, h with
  | [], _ => rfl
  | [c], _ => simp [tag0]
theorem tag0_cons (c : UInt8) (t : List UInt8) : tag0 (c :: t) = if c = 34 ∧ t ≠ [] ∧ t.getLast? = some 34 ∧ t.dropLast.all tagByte = true then some t.dropLast else none := rfl
theorem tagW_short {l : List UInt8} (h : l.length < 2) : tagW l = false := by
  unfold tagW
  rw [List.take_of_length_le (by omega)]
  match l, h with
  | [], _ => rfl
  | [c], _ => simp
/-- The tags of pieces. -/
def tgs : List (List UInt8) → Option (List (Bool × List UInt8))
  | [] => some []
  | x :: t => if (tagOf x).2.2 = true then (tgs t).map (fun m => ((tagOf x).1, (tagOf x).2.1) :: m) else none
theorem tgs_len : ∀ (l : List (List UInt8)) (m : List (Bool × List UInt8)), tgs l = some m → m.length = l.length
  | [], m, h => by simp [tgs] at h; subst h; rfl
  | x :: t, m, h => by
    rw [tgs] at h
    split at h
    · obtain ⟨m', h1, h2⟩ := Option.map_eq_some_iff.1 h
      subst h2
      have := tgs_len t m' h1
      simp [this]
    · cases h
def star (l : List (List UInt8)) : Bool := decide (l = [[42]])
/-- What a list of values is: its tags, whether it is the star, whether it is one. -/
def tagsOf {α : Type} (f : Bool × List UInt8 → α) (l : List (List UInt8)) : List α × Bool × Bool :=
  if star l = true then ([], true, true) else match tgs l with
    | some m => (m.map f, false, decide (((m.map f).length : Int) > 0))
    | none => ([], false, false)
def prt (w : Bool) (m : List UInt8) : List UInt8 := (if w = true then [87, 47] else []) ++ (34 :: m ++ [34])
def prtR (w : Bool) (m : List UInt8) : ByteArray × Bool := if (tagOf (prt w m)).2.2 = true then (mk (prt w m), true) else (mk [], false)
theorem star_head (v : List (List UInt8)) (d : ByteArray) (w : List ByteArray) (hw : w = v.map mk) : (w.length = 1 → ((rdOf d w 0).toList == ([42] : List UInt8)) = star v) ∧ (¬ w.length = 1 → star v = false) := by
  subst hw
  constructor
  · intro h
    rw [List.length_map] at h
    obtain ⟨x, rfl⟩ := List.length_eq_one_iff.1 h
    have : rdOf d ([x].map mk) 0 = mk x := rfl
    rw [this, toList_B, B_mk]
    unfold star
    by_cases e : x = [42]
    · simp [e]
    · rw [beq_eq_false_iff_ne.2 e, decide_eq_false (fun h => e (by simpa using h))]
  · intro h
    unfold star
    refine decide_eq_false (fun e => h (by rw [e]; rfl))
theorem Cut_ok (s : ByteArray) : strings_CutPrefix.f s (⟨#[87, 47]⟩ : ByteArray) = some (if tagW (B s) = true then mk ((B s).drop 2) else s, tagW (B s)) := by
  have hp : stringslite_HasPrefix.f s (⟨#[87, 47]⟩ : ByteArray) = some (tagW (B s)) := by
    unfold stringslite_HasPrefix.f
    have e2 : ((⟨#[87, 47]⟩ : ByteArray).size : Int) = 2 := rfl
    rw [e2]
    by_cases h : (s.size : Int) ≥ 2
    · rw [if_pos h, if_pos (by omega), if_pos (by omega)]
      have : (s.extract 0 (2 : Int).toNat).toList = (B s).take 2 := by rw [toList_B, B_to]; rfl
      rw [this, toList_B]; rfl
    · rw [if_neg h, tagW_short (by rw [← size_B]; omega)]
  unfold strings_CutPrefix.f stringslite_CutPrefix.f
  rw [hp]
  simp only [Option.bind_some]
  by_cases h : tagW (B s) = true
  · have hs : 2 ≤ s.size := by
      rw [size_B]
      by_cases h2 : 2 ≤ (B s).length
      · exact h2
      · rw [tagW_short (by omega)] at h; cases h
    have e2 : ((⟨#[87, 47]⟩ : ByteArray).size : Int) = 2 := rfl
    rw [if_pos h, if_pos h, e2, if_pos (by omega), if_pos (by omega), h]
    simp only [Option.bind_some]
    have : s.extract (2 : Int).toNat s.size = mk ((B s).drop 2) := B_inj (by rw [B_from, B_mk]; rfl)
    rw [this]
  · rw [if_neg h, if_neg h]
    simp only [Bool.not_eq_true] at h
    rw [h]; rfl
theorem may_loop (s : ByteArray) (hs : s.size ≤ 1000000000) : ∀ (l : List UInt8) (i : Nat), (B s).drop i = l → Ev (fun k => etag_may.l0 k s (s.size : Int) (i : Int)) (l.all tagByte)
  | [], i, hl => by
    have := end_drop hl
    exact Ev.step (fun _ => etag_may.l0.eq_2 ..) (Ev.neg (by omega) (Ev.now _))
  | c :: t, i, hl => by
    obtain ⟨h1, h2, h3⟩ := bt_drop hl
    refine Ev.step (fun _ => etag_may.l0.eq_2 ..) (Ev.pos (by omega) (Ev.pos (by omega) (Ev.pos (by omega) ?_)))
    rw [h1, List.all_cons]
    have ih := may_loop s hs t (i + 1) h3
    by_cases a1 : (c.toNat : Int) < 33
    · refine Ev.pos a1 (Ev.konst ?_)
      have : tagByte c = false := by unfold tagByte; rw [decide_eq_true (show c.toNat < 33 by omega)]; rfl
      rw [this]; rfl
    · refine Ev.neg a1 ?_
      by_cases a2 : c = 34
      · refine Ev.pos ((u8_eq c 34 (by omega)).2 a2) (Ev.konst ?_)
        have : tagByte c = false := by rw [a2]; decide
        rw [this]; rfl
      · refine Ev.neg (fun h => a2 ((u8_eq c 34 (by omega)).1 h)) ?_
        by_cases a3 : c = 127
        · refine Ev.pos ((u8_eq c 127 (by omega)).2 a3) (Ev.konst ?_)
          have : tagByte c = false := by rw [a3]; decide
          rw [this]; rfl
        · refine Ev.neg (fun h => a3 ((u8_eq c 127 (by omega)).1 h)) ?_
          have : tagByte c = true := by
            unfold tagByte
            rw [decide_eq_false (show ¬ c.toNat < 33 by omega), beq_eq_false_iff_ne.2 a2, beq_eq_false_iff_ne.2 a3]; rfl
          rw [this, Bool.true_and, wrap_id (by omega) (by omega), cast_succ]
          exact ih
theorem may_ok (s : ByteArray) (hs : s.size ≤ 1000000000) : Ev (fun k => etag_may.f k s) ((B s).all tagByte) := by
  unfold etag_may.f
  exact may_loop s hs (B s) 0 rfl
theorem Parse_ok (s : ByteArray) (hs : s.size ≤ 1000000000) : Ev (fun k => etag_Parse.f k s) (tagR (tagOf (B s))) := by
  unfold etag_Parse.f tagOf
  by_cases h : (s.size : Int) > 4000
  · rw [if_pos (by rw [← size_B]; omega)]
    exact Ev.pos h (Ev.now _)
  · rw [if_neg (by rw [← size_B]; omega)]
    refine Ev.neg h (Ev.bnd (Cut_ok s) ?_)
    dsimp only
    obtain ⟨r, hr, hB⟩ : ∃ r : ByteArray, (if tagW (B s) = true then mk ((B s).drop 2) else s) = r ∧ B r = (if tagW (B s) = true then (B s).drop 2 else B s) := by
      by_cases hw : tagW (B s) = true
      · exact ⟨_, rfl, by rw [if_pos hw, if_pos hw, B_mk]⟩
      · exact ⟨_, rfl, by rw [if_neg hw, if_neg hw]⟩
    have hrs : r.size ≤ s.size := by
      rw [size_B, hB, size_B s]
      split
      · rw [List.length_drop]; omega
      · exact Nat.le_refl _
    rw [hr, ← hB]
    by_cases h2 : (r.size : Int) < 2
    · rw [tag0_short _ (by rw [← size_B]; omega)]
      exact Ev.pos h2 (Ev.now _)
    · refine Ev.neg h2 (Ev.pos (by omega) ?_)
      obtain ⟨c, t, e⟩ : ∃ c t, B r = c :: t := by
        cases hc : B r with
        | nil =>
          have h0 : r.size = 0 := by rw [size_B, hc]; rfl
          omega
        | cons c t => exact ⟨c, t, rfl⟩
      have hsz : r.size = t.length + 1 := by rw [size_B, e]; simp
      have hc : bt r 0 = (c.toNat : Int) := bt_of (i := 0) (by rw [e]; rfl)
      rw [hc, e]
      by_cases e1 : c = 34
      · have w1 : wrap64 ((r.size : Int) - 1) = ((t.length : Nat) : Int) := by rw [wrap_id (by omega) (by omega)]; omega
        have hne : t ≠ [] := fun h => by rw [h] at hsz; simp at hsz; omega
        obtain ⟨d, hd⟩ : ∃ d, t.getLast? = some d := ⟨_, List.getLast?_eq_some_getLast hne⟩
        have hl : bt r ((t.length : Nat) : Int) = (d.toNat : Int) := bt_of (by
          rw [e]
          rw [List.getLast?_eq_getElem?] at hd
          obtain ⟨m, hm⟩ : ∃ m, t.length = m + 1 := ⟨t.length - 1, by cases t with | nil => exact absurd rfl hne | cons _ _ => simp⟩
          rw [hm] at hd ⊢
          simpa using hd)
        rw [w1, hl]
        refine Ev.pos ((u8_eq c 34 (by omega)).2 e1) (Ev.pos (by omega) (Ev.pos (by omega) ?_))
        by_cases e2 : d = 34
        · have hB2 : B (r.extract 1 t.length) = t.dropLast := by
            rw [B_extract, e, List.dropLast_eq_take]; rfl
          have hsz2 : (r.extract 1 t.length).size ≤ 1000000000 := by rw [size_B, hB2, List.length_dropLast]; omega
          have hx : r.extract 1 t.length = mk t.dropLast := B_inj (by rw [hB2]; rfl)
          rw [Int.toNat_natCast]
          refine Ev.pos ((u8_eq d 34 (by omega)).2 e2) (Ev.pos (by omega) (Ev.pos (by omega) (Ev.bind (may_ok _ hsz2) ?_)))
          rw [hB2]
          by_cases e3 : t.dropLast.all tagByte = true
          · have hy : tag0 (c :: t) = some t.dropLast := by rw [tag0_cons, if_pos ⟨e1, hne, by rw [hd, e2], e3⟩]
            rw [hy, hx]
            exact Ev.pos e3 (Ev.now _)
          · have hy : tag0 (c :: t) = none := by rw [tag0_cons, if_neg (fun h => e3 h.2.2.2)]
            rw [hy]
            exact Ev.neg e3 (Ev.now _)
        · have hy : tag0 (c :: t) = none := by rw [tag0_cons, if_neg (fun h => e2 (by have := h.2.2.1; rw [hd] at this; exact Option.some.inj this))]
          rw [hy]
          exact Ev.neg (fun h => e2 ((u8_eq d 34 (by omega)).1 h)) (Ev.now _)
      · have hy : tag0 (c :: t) = none := by rw [tag0_cons, if_neg (fun h => e1 h.1)]
        rw [hy]
        exact Ev.neg (fun h => e1 ((u8_eq c 34 (by omega)).1 h)) (Ev.now _)
/-- Where the first piece ends, from a state on. -/
def pc : Bool → List UInt8 → Nat
  | _, [] => 0
  | q, c :: t =>
    if c = 34 then 1 + pc (!q) t
    else if q = true ∧ c = 92 then (match t with | [] => 1 | _ :: u => 2 + pc q u)
    else if c = 44 ∧ q = false then 0
    else 1 + pc q t
theorem pc_cons (q : Bool) (c : UInt8) (t : List UInt8) : pc q (c :: t) = if c = 34 then 1 + pc (!q) t else if q = true ∧ c = 92 then (match t with | [] => 1 | _ :: u => 2 + pc q u) else if c = 44 ∧ q = false then 0 else 1 + pc q t := by rw [pc.eq_def]
theorem pc_le : ∀ (l : List UInt8) (q : Bool), pc q l ≤ l.length
  | [], q => by simp [pc]
  | [c], q => by
    have : ∀ q, pc q ([] : List UInt8) = 0 := fun _ => rfl
    unfold pc
    (repeat' split) <;> simp_all [pc]
  | c :: d :: u, q => by
    have h1 := pc_le (d :: u) (!q)
    have h2 := pc_le (d :: u) q
    have h3 := pc_le u q
    unfold pc
    simp only [List.length_cons] at h1 h2 ⊢
    split
    · omega
    · split
      · omega
      · split <;> omega
def one (l : List UInt8) : List (List UInt8) := if tr l = [] then [] else [tr l]
/-- The pieces of one value: what has been gone through since the last cut, the state, the rest. -/
def rf : List UInt8 → Bool → List UInt8 → List (List UInt8)
  | cur, _, [] => one cur
  | cur, q, c :: t =>
    if c = 34 then rf (cur ++ [c]) (!q) t
    else if q = true ∧ c = 92 then (match t with | [] => one (cur ++ [c]) | d :: u => rf (cur ++ [c, d]) q u)
    else if c = 44 ∧ q = false then one cur ++ rf [] false t
    else rf (cur ++ [c]) q t
theorem rf_cons (cur : List UInt8) (q : Bool) (c : UInt8) (t : List UInt8) : rf cur q (c :: t) = if c = 34 then rf (cur ++ [c]) (!q) t else if q = true ∧ c = 92 then (match t with | [] => one (cur ++ [c]) | d :: u => rf (cur ++ [c, d]) q u) else if c = 44 ∧ q = false then one cur ++ rf [] false t else rf (cur ++ [c]) q t := by rw [rf.eq_def]
theorem rf_plain (cur : List UInt8) (q : Bool) (c : UInt8) (t : List UInt8) (h : ¬ (q = true ∧ c = 92)) : rf cur q (c :: t) = if c = 34 then rf (cur ++ [c]) (!q) t else if c = 44 ∧ q = false then one cur ++ rf [] false t else rf (cur ++ [c]) q t := by rw [rf_cons, if_neg h]
def pieces (l : List UInt8) : List (List UInt8) := rf [] false l
theorem rf_pc : ∀ (l cur : List UInt8) (q : Bool), rf cur q l = one (cur ++ l.take (pc q l)) ++ (if pc q l < l.length then pieces (l.drop (pc q l + 1)) else [])
  | [], cur, q => by simp [rf, pc]
  | [c], cur, q => by
    have h0 : ∀ q, pc q ([] : List UInt8) = 0 := fun _ => rfl
    have h1 : ∀ cur q, rf cur q [] = one cur := fun _ _ => rfl
    unfold rf pc
    by_cases e1 : c = 34
    · simp [e1, h0, h1]
    · by_cases e2 : q = true ∧ c = 92
      · simp [e1, e2]
      · by_cases e3 : c = 44 ∧ q = false
        · simp [e3, pieces, h1]
        · rw [if_neg e1, if_neg e2, if_neg e3, if_neg e1, if_neg e2, if_neg e3, h0, h1]
          simp
  | c :: d :: u, cur, q => by
    have i1 := rf_pc (d :: u) (cur ++ [c]) (!q)
    have i2 := rf_pc (d :: u) (cur ++ [c]) q
    have i3 := rf_pc u (cur ++ [c, d]) q
    rw [rf, pc]
    by_cases e1 : c = 34
    · rw [if_pos e1, if_pos e1, i1]
      rw [show (1 + pc (!q) (d :: u)) = pc (!q) (d :: u) + 1 from by omega, List.take_succ_cons, List.drop_succ_cons]
      simp only [List.length_cons, List.append_assoc, List.cons_append, List.nil_append]
      congr 1
      by_cases hlt : pc (!q) (d :: u) < u.length + 1
      · rw [if_pos hlt, if_pos (by omega)]; simp only [List.drop_succ_cons]
      · rw [if_neg hlt, if_neg (by omega)]
    · rw [if_neg e1, if_neg e1]
      by_cases e2 : q = true ∧ c = 92
      · rw [if_pos e2, if_pos e2]
        show rf (cur ++ [c, d]) q u = one (cur ++ (c :: d :: u).take (2 + pc q u)) ++ (if 2 + pc q u < (c :: d :: u).length then pieces ((c :: d :: u).drop (2 + pc q u + 1)) else [])
        rw [i3, show 2 + pc q u = pc q u + 1 + 1 from by omega, List.take_succ_cons, List.take_succ_cons, List.drop_succ_cons, List.drop_succ_cons]
        simp only [List.length_cons, List.append_assoc, List.cons_append, List.nil_append]
        congr 1
        by_cases hlt : pc q u < u.length
        · rw [if_pos hlt, if_pos (by omega)]
        · rw [if_neg hlt, if_neg (by omega)]
      · rw [if_neg e2, if_neg e2]
        by_cases e3 : c = 44 ∧ q = false
        · rw [if_pos e3, if_pos e3]
          simp [pieces]
        · rw [if_neg e3, if_neg e3, i2]
          rw [show (1 + pc q (d :: u)) = pc q (d :: u) + 1 from by omega, List.take_succ_cons, List.drop_succ_cons]
          simp only [List.length_cons, List.append_assoc, List.cons_append, List.nil_append]
          congr 1
          by_cases hlt : pc q (d :: u) < u.length + 1
          · rw [if_pos hlt, if_pos (by omega)]; simp only [List.drop_succ_cons]
          · rw [if_neg hlt, if_neg (by omega)]
theorem pieces_nil : pieces [] = [] := by simp [pieces, rf, one, tr_nil]
theorem pieces_pc (l : List UInt8) : pieces l = one (l.take (pc false l)) ++ (if pc false l < l.length then pieces (l.drop (pc false l + 1)) else []) := by
  have := rf_pc l [] false
  rw [List.nil_append] at this
  exact this
/-- The same where the rest is cut as the program cuts it. -/
theorem pieces_cut (l : List UInt8) : pieces l = one (l.take (pc false l)) ++ pieces (l.drop (min (pc false l + 1) l.length)) := by
  have h := pc_le l false
  rw [pieces_pc l]
  by_cases hlt : pc false l < l.length
  · rw [if_pos hlt, Nat.min_eq_left (by omega)]
  · rw [if_neg hlt, Nat.min_eq_right (by omega), List.drop_length, pieces_nil]
theorem one_len (l : List UInt8) : (one l).length ≤ 1 := by unfold one; split <;> simp
theorem pieces_len : ∀ (n : Nat) (l : List UInt8), l.length ≤ n → (pieces l).length ≤ l.length + 1
  | 0, l, h => by
    have : l = [] := by cases l <;> simp_all
    subst this; rw [pieces_nil]; simp
  | n + 1, l, h => by
    rw [pieces_pc l]
    have h1 := one_len (l.take (pc false l))
    by_cases hlt : pc false l < l.length
    · rw [if_pos hlt, List.length_append]
      have h2 := pieces_len n (l.drop (pc false l + 1)) (by rw [List.length_drop]; omega)
      rw [List.length_drop] at h2
      omega
    · rw [if_neg hlt, List.length_append]
      simp only [List.length_nil]; omega
/-- The pieces of several values. -/
def splits (v : List ByteArray) : List (List UInt8) := v.flatMap fun s => pieces (B s)
theorem Trim_ok (s : ByteArray) (h : s.size ≤ 9223372036854775807) : head_Trim.f s = some (mk (tr (B s))) := by
  unfold head_Trim.f strings_Trim.f
  rw [if_pos h, if_pos rfl]
  rfl
theorem piece_loop (s : ByteArray) (hs : s.size ≤ 1000000000) : ∀ (n : Nat) (l : List UInt8) (i : Nat) (q : Bool), l.length ≤ n → (B s).drop i = l → i ≤ s.size →
    Ev (fun k => head_piece.l0 k s q (i : Int)) ((i + pc q l : Nat) : Int)
  | n, [], i, q, hn, hl, hi => by
    have h1 := end_drop hl
    have e : i = s.size := by omega
    refine Ev.step (fun _ => head_piece.l0.eq_2 ..) (Ev.neg (by omega) (Ev.konst ?_))
    simp [pc, e]
  | 0, c :: t, i, q, hn, hl, hi => by simp at hn
  | n + 1, c :: t, i, q, hn, hl, hi => by
    obtain ⟨h1, h2, h3⟩ := bt_drop hl
    simp only [List.length_cons] at hn
    have w1 : wrap64 ((i : Int) + 1) = ((i + 1 : Nat) : Int) := by rw [wrap_id (by omega) (by omega)]; omega
    have w2 : wrap64 (((i + 1 : Nat) : Int) + 1) = ((i + 2 : Nat) : Int) := by rw [wrap_id (by omega) (by omega)]; omega
    refine Ev.step (fun _ => head_piece.l0.eq_2 ..) (Ev.pos (by omega) (Ev.pos (by omega) ?_))
    rw [h1, w1, pc_cons]
    by_cases e1 : c = 34
    · rw [if_pos e1]
      refine Ev.pos ((u8_eq c 34 (by omega)).2 e1) ?_
      have := piece_loop s hs n t (i + 1) (!q) (by omega) h3 (by omega)
      rw [show i + (1 + pc (!q) t) = i + 1 + pc (!q) t from by omega]
      exact this
    · rw [if_neg e1]
      refine Ev.neg (fun h => e1 ((u8_eq c 34 (by omega)).1 h)) ?_
      have tail : ∀ b, ¬ b = true → (¬ (q = true ∧ c = 92)) → Ev (fun k => head_piece.j1 k s q (i : Int) b) ((i + (if c = 44 ∧ q = false then 0 else 1 + pc q t) : Nat) : Int) := by
        intro b hb hq
        refine Ev.step (fun _ => head_piece.j1.eq_2 ..) (Ev.neg hb (Ev.pos (by omega) (Ev.pos (by omega) ?_)))
        rw [h1, w1]
        by_cases e3 : c = 44
        · refine Ev.pos ((u8_eq c 44 (by omega)).2 e3) ?_
          cases q with
          | true =>
            rw [if_neg (by simp)]
            refine Ev.pos rfl ?_
            have := piece_loop s hs n t (i + 1) true (by omega) h3 (by omega)
            rw [show i + (1 + pc true t) = i + 1 + pc true t from by omega]
            exact this
          | false =>
            rw [if_pos ⟨e3, rfl⟩]
            exact Ev.neg (by simp) (Ev.now _)
        · rw [if_neg (fun h => e3 h.1)]
          refine Ev.neg (fun h => e3 ((u8_eq c 44 (by omega)).1 h)) ?_
          have := piece_loop s hs n t (i + 1) q (by omega) h3 (by omega)
          rw [show i + (1 + pc q t) = i + 1 + pc q t from by omega]
          exact this
      cases q with
      | false =>
        rw [if_neg (by simp)]
        exact Ev.neg (by simp) (tail false (by simp) (by simp))
      | true =>
        refine Ev.pos rfl ?_
        by_cases e2 : c = 92
        · rw [if_pos ⟨rfl, e2⟩, show ((c.toNat : Int) == 92) = true from by simpa using (u8_eq c 92 (by omega)).2 e2]
          refine Ev.step (fun _ => head_piece.j1.eq_2 ..) (Ev.pos rfl ?_)
          rw [w1, w2]
          cases t with
          | nil =>
            have h4 := end_drop h3
            refine Ev.step (fun _ => head_piece.l0.eq_2 ..) (Ev.neg (by omega) (Ev.konst ?_))
            simp; omega
          | cons d u =>
            obtain ⟨_, h5, h6⟩ := bt_drop h3
            simp only [List.length_cons] at hn
            have := piece_loop s hs n u (i + 2) true (by omega) h6 (by omega)
            show Ev _ ((i + (2 + pc true u) : Nat) : Int)
            rw [show i + (2 + pc true u) = i + 2 + pc true u from by omega]
            exact this
        · rw [if_neg (fun h => e2 h.2), show ((c.toNat : Int) == 92) = false from by simpa using fun h => e2 ((u8_eq c 92 (by omega)).1 h)]
          exact tail false (by simp) (fun h => e2 h.2)
theorem piece_ok (s : ByteArray) (hs : s.size ≤ 1000000000) : Ev (fun k => head_piece.f k s) ((pc false (B s) : Nat) : Int) := by
  unfold head_piece.f
  have := piece_loop s hs (B s).length (B s) 0 false (Nat.le_refl _) rfl (by omega)
  rw [Nat.zero_add] at this
  exact this
theorem mn_nat (a b : Nat) : mn (a : Int) (b : Int) = ((min a b : Nat) : Int) := by
  unfold mn; split <;> omega
/-- One value is gone through; what follows is told. -/
theorem split_one (v : List ByteArray) (m : Int) (j : Int) {r : List ByteArray} (bd : Nat) (hbd : bd ≤ 1000000000) : ∀ (n : Nat) (s : ByteArray) (acc : List ByteArray), s.size ≤ n → s.size ≤ 1000000000 → acc.length + s.size + 1 ≤ bd →
    Ev (fun k => head_Split.l0 k (acc ++ (pieces (B s)).map mk) v m (wrap64 (j + 1))) r → Ev (fun k => head_Split.l1 k acc s v m j) r
  | n, s, acc, hn, hs, ha, hr => by
    refine Ev.step (fun _ => head_Split.l1.eq_2 ..) ?_
    by_cases he : B s = []
    · rw [he, pieces_nil] at hr
      simp only [List.map_nil, List.append_nil] at hr
      exact Ev.pos (by rw [toList_B, he]) hr
    · have hne : ¬ s.toList = [] := by rw [toList_B]; exact he
      have hp := pc_le (B s) false
      rw [← size_B] at hp
      have hpos : 0 < s.size := by
        rw [size_B]
        cases h : B s with
        | nil => exact absurd h he
        | cons _ _ => simp
      have w1 : wrap64 (((pc false (B s) : Nat) : Int) + 1) = ((pc false (B s) + 1 : Nat) : Int) := by rw [wrap_id (by omega) (by omega)]; omega
      have e1 : ((mn ((pc false (B s) + 1 : Nat) : Int) (s.size : Int)) : Int).toNat = min (pc false (B s) + 1) s.size := by rw [mn_nat]; exact Int.toNat_natCast _
      have h0 : 0 ≤ mn ((pc false (B s) + 1 : Nat) : Int) (s.size : Int) := by rw [mn_nat]; omega
      have h1 : mn ((pc false (B s) + 1 : Nat) : Int) (s.size : Int) ≤ (s.size : Int) := by rw [mn_nat]; omega
      have cut := pieces_cut (B s)
      have eT : head_Trim.f (s.extract 0 ((pc false (B s) : Nat) : Int).toNat) = some (mk (tr ((B s).take (pc false (B s))))) := by
        rw [Trim_ok _ (by rw [size_B, B_to]; have := List.length_take_le (pc false (B s)) (B s); simp only [Int.toNat_natCast] at *; rw [← size_B] at *; omega), B_to, Int.toNat_natCast]
      have hrest : B (s.extract (min (pc false (B s) + 1) s.size) s.size) = (B s).drop (min (pc false (B s) + 1) (B s).length) := by rw [B_from, ← size_B]
      have hsz : (s.extract (min (pc false (B s) + 1) s.size) s.size).size = s.size - min (pc false (B s) + 1) s.size := by rw [size_B, B_from, List.length_drop, ← size_B]
      refine Ev.neg hne (Ev.bind (piece_ok s hs) (Ev.pos (by omega) (Ev.pos (by omega) (Ev.bnd eT ?_))))
      rw [w1, e1]
      obtain ⟨n, rfl⟩ : ∃ m, n = m + 1 := ⟨n - 1, by omega⟩
      by_cases hz : tr ((B s).take (pc false (B s))) = []
      · refine Ev.pos (by rw [toList_B, B_mk, hz]) (Ev.pos h0 (Ev.pos h1 ?_))
        refine split_one v m j bd hbd n _ acc (by rw [hsz]; omega) (by rw [hsz]; omega) (by rw [hsz]; omega) ?_
        rw [hrest]
        rw [cut, one, if_pos hz, List.nil_append] at hr
        exact hr
      · refine Ev.neg (by rw [toList_B, B_mk]; exact hz) (Ev.pos (by omega) (Ev.pos h0 (Ev.pos h1 ?_)))
        refine split_one v m j bd hbd n _ _ (by rw [hsz]; omega) (by rw [hsz]; omega) (by rw [hsz]; simp only [List.length_append, List.length_cons, List.length_nil]; omega) ?_
        rw [hrest]
        rw [cut, one, if_neg hz] at hr
        simpa using hr
theorem split_loop (v : List ByteArray) (hv : v.length ≤ 1000000) (hb : ∀ s ∈ v, s.size ≤ 1100000) : ∀ (l : List ByteArray) (i : Nat) (acc : List ByteArray), v.drop i = l → acc.length ≤ 1100001 * i → i + l.length ≤ 400 →
    Ev (fun k => head_Split.l0 k acc v (v.length : Int) (i : Int)) (acc ++ (splits l).map mk)
  | [], i, acc, hl, ha, hi => by
    have := drop_nil hl
    refine Ev.step (fun _ => head_Split.l0.eq_2 ..) (Ev.neg (by omega) (Ev.konst ?_))
    simp [splits]
  | s :: t, i, acc, hl, ha, hi => by
    obtain ⟨h1, h2, h3⟩ := drop_cons hl
    have hs := hb s (List.mem_of_getElem? h2)
    have hp := pieces_len (B s).length (B s) (Nat.le_refl _)
    rw [← size_B] at hp
    simp only [List.length_cons] at hi
    refine Ev.step (fun _ => head_Split.l0.eq_2 ..) (Ev.pos (by omega) (Ev.pos (by omega) (Ev.pos (by omega) ?_)))
    rw [rdOf_of h2]
    refine split_one v _ _ 1000000000 (Nat.le_refl _) s.size s acc (Nat.le_refl _) (by omega) (by omega) ?_
    rw [wrap_id (by omega) (by omega), cast_succ]
    have hl' : (acc ++ (pieces (B s)).map mk).length ≤ 1100001 * (i + 1) := by rw [List.length_append, List.length_map]; omega
    have := split_loop v hv hb t (i + 1) _ h3 hl' (by omega)
    simpa [splits] using this
def P28 (x : Bool × List UInt8) : S28 := ⟨x.1, mk x.2⟩
theorem list_loop (v : List ByteArray) (hv : v.length ≤ 1000000000) (hb : ∀ s ∈ v, s.size ≤ 1000000000) : ∀ (l : List ByteArray) (i : Nat) (acc : List S28), v.drop i = l → acc.length ≤ i →
    Ev (fun k => etag_List.l0 k acc v (v.length : Int) (i : Int)) (match tgs (l.map B) with | some m => (acc ++ m.map P28, false, decide (((acc ++ m.map P28).length : Int) > 0)) | none => ([], false, false))
  | [], i, acc, hl, ha => by
    have := drop_nil hl
    refine Ev.step (fun _ => etag_List.l0.eq_2 ..) (Ev.neg (by omega) (Ev.konst ?_))
    simp [tgs]
  | s :: t, i, acc, hl, ha => by
    obtain ⟨h2, h3, h4⟩ := drop_cons hl
    have hs := hb s (List.mem_of_getElem? h3)
    refine Ev.step (fun _ => etag_List.l0.eq_2 ..) (Ev.pos (by omega) (Ev.pos (by omega) (Ev.pos (by omega) ?_)))
    rw [rdOf_of h3, List.map_cons, tgs]
    refine Ev.bind (Parse_ok s hs) ?_
    by_cases h : (tagOf (B s)).2.2 = true
    · rw [if_pos h]
      refine Ev.pos h (Ev.pos (by omega) ?_)
      rw [wrap_id (by omega) (by omega), cast_succ]
      have e0 : (⟨(tagR (tagOf (B s))).1, (tagR (tagOf (B s))).2.1⟩ : S28) = P28 ((tagOf (B s)).1, (tagOf (B s)).2.1) := rfl
      rw [e0]
      have := list_loop v hv hb t (i + 1) (acc ++ [P28 ((tagOf (B s)).1, (tagOf (B s)).2.1)]) h4 (by simp only [List.length_append, List.length_cons, List.length_nil]; omega)
      cases e : tgs (t.map B) with
      | none => rw [e] at this; simpa using this
      | some m => rw [e] at this; simpa using this
    · rw [if_neg h]
      exact Ev.neg h (Ev.now _)
theorem map_B_mk (l : List (List UInt8)) : (l.map mk).map B = l := by
  rw [List.map_map]
  have : (B ∘ mk) = id := funext fun x => B_mk x
  rw [this, List.map_id]
theorem List_ok (v : List ByteArray) (hv : v.length ≤ 400) (hb : ∀ s ∈ v, s.size ≤ 1100000) (hp : (splits v).length ≤ 1000000000) (hq : ∀ x ∈ splits v, x.length ≤ 1000000000) : Ev (fun k => etag_List.f k v) (tagsOf P28 (splits v)) := by
  unfold etag_List.f
  have hS : Ev (fun k => head_Split.f k v) ((splits v).map mk) := by
    unfold head_Split.f
    have := split_loop v (by omega) hb v 0 [] rfl (by simp) (by omega)
    simpa using this
  obtain ⟨s1, s2⟩ := star_head (splits v) ByteArray.empty _ rfl
  have tail : star (splits v) = false → Ev (fun k => etag_List.l0 k [] ((splits v).map mk) (((splits v).map mk).length : Int) 0) (tagsOf P28 (splits v)) := by
    intro hst
    have := list_loop ((splits v).map mk) (by rw [List.length_map]; exact hp) (fun s hs => by
      obtain ⟨x, hx, rfl⟩ := List.mem_map.1 hs
      rw [size_B, B_mk]; exact hq x hx) ((splits v).map mk) 0 [] rfl (by simp)
    rw [map_B_mk] at this
    unfold tagsOf
    rw [if_neg (by rw [hst]; simp)]
    exact this
  refine Ev.bind hS ?_
  by_cases h1 : (((splits v).map mk).length : Int) = 1
  · refine Ev.pos h1 (Ev.pos (by omega) ?_)
    rw [s1 (by omega)]
    refine Ev.step (fun _ => etag_List.j0.eq_2 ..) ?_
    by_cases hst : star (splits v) = true
    · refine Ev.pos hst (Ev.konst ?_)
      unfold tagsOf; rw [if_pos hst]
    · exact Ev.neg hst (tail (by simpa using hst))
  · refine Ev.neg h1 (Ev.step (fun _ => etag_List.j0.eq_2 ..) (Ev.neg (by simp) (tail (s2 (by omega)))))
theorem Print_ok (w : Bool) (m : ByteArray) (hm : m.size ≤ 1100000) : Ev (fun k => etag_Print.f k w m) (prtR w (B m)) := by
  unfold etag_Print.f
  have e1 : ((⟨#[34]⟩ : ByteArray) ++ m).size = 1 + m.size := by rw [size_B, B_append, List.length_append, ← size_B, ← size_B]; rfl
  have e2 : (((⟨#[34]⟩ : ByteArray) ++ m) ++ (⟨#[34]⟩ : ByteArray)).size = 2 + m.size := by rw [size_B, B_append, List.length_append, ← size_B, ← size_B, e1]; show 1 + m.size + 1 = _; omega
  have b2 : B (((⟨#[34]⟩ : ByteArray) ++ m) ++ (⟨#[34]⟩ : ByteArray)) = 34 :: B m ++ [34] := by rw [B_append, B_append]; rfl
  refine Ev.pos (by omega) (Ev.pos (by omega) ?_)
  cases w with
  | true =>
    have b3 : B ((⟨#[87, 47]⟩ : ByteArray) ++ (((⟨#[34]⟩ : ByteArray) ++ m) ++ (⟨#[34]⟩ : ByteArray))) = prt true (B m) := by rw [B_append, b2]; rfl
    have e3 : ((⟨#[87, 47]⟩ : ByteArray) ++ (((⟨#[34]⟩ : ByteArray) ++ m) ++ (⟨#[34]⟩ : ByteArray))).size ≤ 1000000000 := by rw [size_B, b3]; simp [prt, ← size_B]; omega
    have hx : (⟨#[87, 47]⟩ : ByteArray) ++ (((⟨#[34]⟩ : ByteArray) ++ m) ++ (⟨#[34]⟩ : ByteArray)) = mk (prt true (B m)) := B_inj (by rw [b3]; rfl)
    refine Ev.pos rfl (Ev.pos (by omega) ?_)
    rw [hx] at e3 ⊢
    refine Ev.bind (Parse_ok _ e3) ?_
    rw [B_mk]
    unfold prtR
    by_cases h : (tagOf (prt true (B m))).2.2 = true
    · rw [if_pos h]; exact Ev.pos h (Ev.now _)
    · rw [if_neg h]; exact Ev.neg h (Ev.now _)
  | false =>
    have hx : (((⟨#[34]⟩ : ByteArray) ++ m) ++ (⟨#[34]⟩ : ByteArray)) = mk (prt false (B m)) := B_inj (by rw [b2]; rfl)
    have e3 := e2
    rw [hx] at e3
    refine Ev.neg (by simp) ?_
    rw [hx]
    refine Ev.bind (Parse_ok _ (by omega)) ?_
    rw [B_mk]
    unfold prtR
    by_cases h : (tagOf (prt false (B m))).2.2 = true
    · rw [if_pos h]; exact Ev.pos h (Ev.now _)
    · rw [if_neg h]; exact Ev.neg h (Ev.now _)
theorem prt_tag0 (m : List UInt8) : tag0 (34 :: (m ++ [34])) = if m.all tagByte = true then some m else none := by
  rw [tag0_cons]
  have h1 : (m ++ [34] : List UInt8) ≠ [] := by simp
  have h2 : (m ++ [34] : List UInt8).getLast? = some 34 := by simp
  have h3 : (m ++ [34] : List UInt8).dropLast = m := by simp
  rw [h2, h3]
  by_cases h : m.all tagByte = true
  · rw [if_pos ⟨rfl, h1, rfl, h⟩, if_pos h]
  · rw [if_neg (fun z => h z.2.2.2), if_neg h]
theorem prt_W (w : Bool) (m : List UInt8) : tagW (prt w m) = w ∧ (if w = true then (prt w m).drop 2 else prt w m) = 34 :: (m ++ [34]) := by
  cases w with
  | true => exact ⟨rfl, by simp [prt]⟩
  | false =>
    refine ⟨?_, by simp [prt]⟩
    unfold tagW prt
    cases m with
    | nil => decide
    | cons c t => simp
theorem prt_tag {w : Bool} {m : List UInt8} (h : (tagOf (prt w m)).2.2 = true) : tagOf (prt w m) = (w, m, true) ∧ m.all tagByte = true := by
  obtain ⟨h1, h2⟩ := prt_W w m
  unfold tagOf at h ⊢
  rw [h1] at h ⊢
  by_cases hl : (prt w m).length > 4000
  · rw [if_pos hl] at h; simp at h
  · rw [if_neg hl] at h ⊢
    rw [h2, prt_tag0] at h ⊢
    by_cases ha : m.all tagByte = true
    · rw [if_pos ha]; exact ⟨rfl, ha⟩
    · rw [if_neg ha] at h; simp at h
/-- What is read is printed just so. -/
theorem tag_prt {l : List UInt8} (h : (tagOf l).2.2 = true) : prt (tagOf l).1 (tagOf l).2.1 = l := by
  unfold tagOf at h ⊢
  by_cases hl : l.length > 4000
  · rw [if_pos hl] at h; simp at h
  · rw [if_neg hl] at h ⊢
    cases ht : tag0 (if tagW l = true then l.drop 2 else l) with
    | none => rw [ht] at h; simp at h
    | some m =>
      dsimp only
      have key : (if tagW l = true then l.drop 2 else l) = 34 :: (m ++ [34]) := by
        cases hr : (if tagW l = true then l.drop 2 else l) with
        | nil => rw [hr] at ht; simp [tag0] at ht
        | cons c t =>
          rw [hr, tag0_cons] at ht
          split at ht
          · rename_i hc
            obtain ⟨c1, c2, c3, c4⟩ := hc
            have e := Option.some.inj ht
            subst c1
            rw [← e]
            have : t = t.dropLast ++ [t.getLast c2] := (List.dropLast_concat_getLast c2).symm
            rw [List.getLast?_eq_some_getLast c2] at c3
            rw [Option.some.inj c3] at this
            rw [← this]
          · cases ht
      unfold prt
      by_cases hw : tagW l = true
      · rw [if_pos hw] at key
        rw [if_pos hw]
        have h2 : l.take 2 = [87, 47] := by unfold tagW at hw; exact eq_of_beq hw
        rw [← List.take_append_drop 2 l, h2, key]; rfl
      · rw [if_neg hw] at key
        rw [if_neg hw, key]; rfl
def PP (x : S28) : List UInt8 := prt x.f0 (B x.f1)
def good (x : S28) : Prop := (tagOf (PP x)).2.2 = true ∧ (92 : UInt8) ∉ B x.f1 ∧ x.f1.size ≤ 400
def jn : List (List UInt8) → List UInt8
  | [] => []
  | [x] => x
  | x :: y :: t => x ++ 44 :: 32 :: jn (y :: t)
theorem jn_snoc : ∀ (l : List (List UInt8)) (x : List UInt8), l ≠ [] → jn (l ++ [x]) = jn l ++ 44 :: 32 :: x
  | [], x, h => absurd rfl h
  | [y], x, _ => rfl
  | y :: z :: t, x, _ => by
    have ih := jn_snoc (z :: t) x (by simp)
    show jn (y :: z :: (t ++ [x])) = _
    rw [jn]
    have e : z :: (t ++ [x]) = (z :: t) ++ [x] := rfl
    rw [e, ih, jn]
    simp
theorem rf_text (m : List UInt8) : ∀ (cur r : List UInt8), m.all tagByte = true → (92 : UInt8) ∉ m → rf cur true (m ++ r) = rf (cur ++ m) true r := by
  induction m with
  | nil => intro cur r _ _; simp
  | cons c t ih =>
    intro cur r h1 h2
    rw [List.all_cons, Bool.and_eq_true] at h1
    have hc : c ≠ 34 := by
      intro e; rw [e] at h1; exact absurd h1.1 (by decide)
    have hb : c ≠ 92 := fun e => h2 (by rw [e]; simp)
    show rf cur true (c :: (t ++ r)) = _
    rw [rf_cons, if_neg hc, if_neg (fun h => hb h.2), if_neg (by simp), ih _ _ h1.2 (fun h => h2 (by simp [h]))]
    simp
theorem rf_tag (x : S28) (hx : good x) (cur r : List UInt8) : rf cur false (PP x ++ r) = rf (cur ++ PP x) false r := by
  obtain ⟨h1, h2, _⟩ := hx
  obtain ⟨_, ha⟩ := prt_tag h1
  have q : ∀ cur, rf cur false (34 :: (B x.f1 ++ 34 :: r)) = rf (cur ++ (34 :: (B x.f1 ++ [34]))) false r := by
    intro cur
    rw [rf_cons, if_pos rfl]
    show rf (cur ++ [34]) true _ = _
    rw [rf_text _ _ _ ha h2, rf_cons, if_pos rfl]
    simp
  unfold PP prt
  cases x.f0 with
  | false =>
    have := q cur
    simpa using this
  | true =>
    have := q (cur ++ [87, 47])
    have s1 : rf cur false (87 :: 47 :: 34 :: (B x.f1 ++ 34 :: r)) = rf (cur ++ [87, 47]) false (34 :: (B x.f1 ++ 34 :: r)) := by
      rw [rf_cons, if_neg (by decide), if_neg (by simp), if_neg (by decide), rf_cons, if_neg (by decide), if_neg (by simp), if_neg (by decide)]
      simp
    simp only [if_true, List.cons_append, List.nil_append, List.append_assoc]
    rw [s1, this]
    simp
theorem tr_tag (x : S28) (cur : List UInt8) (hc : cur = [] ∨ cur = [32]) : tr (cur ++ PP x) = PP x := by
  obtain ⟨c, u, e1, e2⟩ : ∃ c u, PP x = c :: u ∧ blank c = false := by
    unfold PP prt
    cases x.f0 with
    | true => exact ⟨87, _, rfl, by decide⟩
    | false => exact ⟨34, _, rfl, by decide⟩
  obtain ⟨v, e3⟩ : ∃ v, PP x = v ++ [34] := by
    unfold PP prt
    exact ⟨(if x.f0 = true then [87, 47] else []) ++ (34 :: B x.f1), by simp⟩
  have hd : (cur ++ PP x).dropWhile blank = PP x := by
    have h0 : (PP x).dropWhile blank = PP x := by rw [e1, List.dropWhile_cons, if_neg (by rw [e2]; simp)]
    rcases hc with rfl | rfl
    · exact h0
    · show (32 :: PP x).dropWhile blank = _
      rw [List.dropWhile_cons, if_pos (by decide)]; exact h0
  rw [tr_eq, hd, e3, rdw_snoc_, if_neg (by decide)]
where
  rdw_snoc_ : ∀ {p : UInt8 → Bool} {l : List UInt8} {c : UInt8}, rdw p (l ++ [c]) = if p c = true then rdw p l else l ++ [c] := by
    intro p l c
    unfold rdw
    rw [List.reverse_append]
    by_cases h : p c = true <;> simp [h]
theorem PP_ne (x : S28) : PP x ≠ [] := by unfold PP prt; simp
theorem rf_list : ∀ (l : List S28) (cur : List UInt8), l ≠ [] → (cur = [] ∨ cur = [32]) → (∀ x ∈ l, good x) → rf cur false (jn (l.map PP)) = l.map PP
  | [], _, h, _, _ => absurd rfl h
  | [x], cur, _, hc, hg => by
    have h := rf_tag x (hg x (by simp)) cur []
    rw [List.append_nil] at h
    show rf cur false (PP x) = [PP x]
    rw [h]
    show one _ = _
    rw [one, tr_tag x cur hc, if_neg (PP_ne x)]
  | x :: y :: t, cur, _, hc, hg => by
    have ih := rf_list (y :: t) [32] (by simp) (.inr rfl) (fun z hz => hg z (by simp only [List.mem_cons] at hz ⊢; exact .inr hz))
    show rf cur false (PP x ++ 44 :: 32 :: jn ((y :: t).map PP)) = _
    rw [rf_tag x (hg x (by simp)) cur, rf_cons, if_neg (by decide), if_neg (by simp), if_pos ⟨rfl, rfl⟩, one, tr_tag x cur hc, if_neg (PP_ne x), rf_cons, if_neg (by decide), if_neg (by simp), if_neg (by decide)]
    show [PP x] ++ rf [32] false _ = _
    rw [ih]; rfl
theorem tgs_list : ∀ (l : List S28), (∀ x ∈ l, good x) → tgs (l.map PP) = some (l.map fun x => (x.f0, B x.f1))
  | [], _ => rfl
  | x :: t, hg => by
    obtain ⟨h, _⟩ := hg x (by simp)
    have e := (prt_tag h).1
    rw [List.map_cons, tgs, if_pos h, tgs_list t (fun z hz => hg z (by simp [hz]))]
    show some ((( tagOf (PP x)).1, (tagOf (PP x)).2.1) :: _) = _
    have e' : tagOf (PP x) = (x.f0, B x.f1, true) := e
    rw [e']; rfl
theorem star_list (l : List S28) : star (l.map PP) = false := by
  unfold star
  refine decide_eq_false fun e => ?_
  cases l with
  | nil => simp at e
  | cons x t =>
    rw [List.map_cons] at e
    have := (List.cons.inj e).1
    have h : (PP x).length = 1 := by rw [this]; rfl
    unfold PP prt at h
    rw [List.length_append, List.length_append, List.length_cons, List.length_cons] at h
    omega
theorem prt_len (w : Bool) (m : List UInt8) : (prt w m).length ≤ m.length + 4 := by
  unfold prt; cases w <;> simp
theorem bs_no (s : ByteArray) : ∀ (n q : Nat), q + n = s.size → EL.bs s n q = false → ∀ i, q ≤ i → ∀ c, (B s)[i]? = some c → c ≠ 92
  | 0, q, h, _, i, hi, c, hc => by
    have := (List.getElem?_eq_some_iff.1 hc).1
    rw [← size_B] at this
    omega
  | n + 1, q, h, e, i, hi, c, hc => by
    unfold EL.bs at e
    by_cases z : bt s (q : Int) = 92
    · rw [if_pos z] at e; cases e
    · rw [if_neg z] at e
      by_cases hq : i = q
      · subst hq
        intro hh
        exact z (by rw [bt_of hc, hh]; rfl)
      · exact bs_no s n (q + 1) (by omega) e i (by omega) c hc
theorem bs_free {s : ByteArray} (h : EL.bs s s.size 0 = false) : (92 : UInt8) ∉ B s := by
  intro m
  obtain ⟨i, hi⟩ := List.getElem?_of_mem m
  exact bs_no s s.size 0 (by omega) h i (Nat.zero_le _) _ hi rfl
def PM (x : S28) : ByteArray := mk (PP x)
theorem pieces_PP {x : S28} (hx : good x) : pieces (PP x) = [PP x] := by
  have := rf_list [x] [] (by simp) (.inl rfl) (fun y hy => by rw [List.mem_singleton.1 hy]; exact hx)
  exact this
theorem splits_app (v w : List ByteArray) : splits (v ++ w) = splits v ++ splits w := by unfold splits; rw [List.flatMap_append]
theorem splits_PM : ∀ (gs : List S28), (∀ x ∈ gs, good x) → splits (gs.map PM) = gs.map PP
  | [], _ => rfl
  | x :: t, h => by
    have ih := splits_PM t (fun y hy => h y (List.mem_cons_of_mem _ hy))
    have e : splits ((x :: t).map PM) = pieces (B (PM x)) ++ splits (t.map PM) := by
      show splits (PM x :: t.map PM) = _
      unfold splits
      rw [List.flatMap_cons]
    rw [e, ih]
    show pieces (B (mk (PP x))) ++ _ = _
    rw [B_mk, pieces_PP (h x List.mem_cons_self)]
    rfl
theorem tgs_bad : ∀ (l m : List (List UInt8)) (y : List UInt8), (tagOf y).2.2 = false → tgs (l ++ y :: m) = none
  | [], m, y, h => by show tgs (y :: m) = none; rw [tgs, if_neg (by rw [h]; simp)]
  | x :: t, m, y, h => by
    show tgs (x :: (t ++ y :: m)) = none
    rw [tgs, tgs_bad t m y h]
    by_cases z : (tagOf x).2.2 = true
    · rw [if_pos z]; rfl
    · rw [if_neg z]
theorem col_ok : ∀ (n : Nat) (l gs : List S28), (∀ x ∈ l, x.f1.size ≤ 1100000) → (∀ x ∈ gs, good x) → ∃ res, Ev (fun k => EL.col k n l (gs.map PM)) res ∧ ∀ vs, res = some vs → ∃ gs' : List S28, vs = gs'.map PM ∧ (∀ x ∈ gs', good x) ∧ gs'.length ≤ gs.length + n
  | 0, l, gs, _, hg => ⟨some (gs.map PM), Ev.now _, fun vs h => ⟨gs, (Option.some.inj h).symm, hg, by omega⟩⟩
  | n + 1, [], gs, _, hg => ⟨some (gs.map PM), Ev.now _, fun vs h => ⟨gs, (Option.some.inj h).symm, hg, by omega⟩⟩
  | n + 1, x :: t, gs, hl, hg => by
    have hp := Print_ok x.f0 x.f1 (hl x List.mem_cons_self)
    unfold prtR at hp
    have step : ∀ {r : Option (List ByteArray)} {p : ByteArray × Bool}, Ev (fun k => etag_Print.f k x.f0 x.f1) p → Ev (fun k => if p.2 = true then (if 400 < p.1.size then some none else if EL.bs p.1 p.1.size 0 = true then some none else EL.col k n t (gs.map PM ++ [p.1])) else some none) r → Ev (fun k => EL.col k (n + 1) (x :: t) (gs.map PM)) r := by
      intro r p h1 h2
      exact Ev.bind h1 h2
    by_cases hv : (tagOf (prt x.f0 (B x.f1))).2.2 = true
    · rw [if_pos hv] at hp
      by_cases h4 : 400 < (mk (prt x.f0 (B x.f1))).size
      · exact ⟨none, step hp (Ev.pos rfl (Ev.pos h4 (Ev.now _))), fun vs h => by cases h⟩
      · cases hb : EL.bs (mk (prt x.f0 (B x.f1))) (mk (prt x.f0 (B x.f1))).size 0 with
        | true => exact ⟨none, step hp (Ev.pos rfl (Ev.neg h4 (Ev.pos hb (Ev.now _)))), fun vs h => by cases h⟩
        | false =>
          have hfree := bs_free hb
          rw [B_mk] at hfree
          have hx : good x := by
            refine ⟨hv, fun m => hfree ?_, ?_⟩
            · unfold prt
              exact List.mem_append.2 (.inr (List.mem_append.2 (.inl (List.mem_cons_of_mem _ m))))
            · rw [size_B, B_mk] at h4
              unfold prt at h4
              rw [List.length_append, List.length_append, List.length_cons, ← size_B] at h4
              omega
          obtain ⟨res, r1, r2⟩ := col_ok n t (gs ++ [x]) (fun y hy => hl y (List.mem_cons_of_mem _ hy)) (fun y hy => by
            rcases List.mem_append.1 hy with hy | hy
            · exact hg y hy
            · rw [List.mem_singleton.1 hy]; exact hx)
          refine ⟨res, step hp (Ev.pos rfl (Ev.neg h4 (Ev.neg (by rw [hb]; simp) ?_))), fun vs h => ?_⟩
          · have e : (gs ++ [x]).map PM = gs.map PM ++ [mk (prt x.f0 (B x.f1))] := by rw [List.map_append]; rfl
            rw [e] at r1
            exact r1
          · obtain ⟨gs', a, b, c⟩ := r2 vs h
            refine ⟨gs', a, b, ?_⟩
            rw [List.length_append] at c
            simp at c
            omega
    · rw [if_neg hv] at hp
      exact ⟨none, step hp (Ev.neg (by simp) (Ev.now _)), fun vs h => by cases h⟩
theorem EtagLists (l : List S28) (at_ : Int) (g0 : l.length ≤ maxLen ∧ ∀ x ∈ l, True ∧ x.f1.size ≤ maxLen) (g1 : (Lit.int .i64 at_).wf = true)
    (hk : ((l.map fun y => (1 + (y.f1.size + 1) + 1)).sum + 1) + 1 ≤ 1048576) : ∃ k, sprlaw16_EtagLists.f k l at_ = some true := by
  have hsum : ∀ (m : List S28), ∀ x ∈ m, x.f1.size + 3 ≤ (m.map fun y => (1 + (y.f1.size + 1) + 1)).sum := by
    intro m
    induction m with
    | nil => intro x hx; cases hx
    | cons y t ih =>
      intro x hx
      simp only [List.map_cons, List.sum_cons]
      rcases List.mem_cons.1 hx with rfl | hx
      · omega
      · have := ih x hx; omega
  refine Ev.rounds ?_
  unfold sprlaw16_EtagLists.f
  obtain ⟨res, r1, r2⟩ := col_ok 20 l [] (fun x hx => by have := hsum l x hx; omega) (fun x hx => by cases hx)
  refine Ev.bind r1 ?_
  cases res with
  | none => exact Ev.now _
  | some vs =>
    obtain ⟨gs, rfl, hg, hlen⟩ := r2 vs rfl
    simp only [List.length_nil] at hlen
    show Ev (fun k => if (gs.map PM).length ≤ 1000 then EL.rest k (gs.map PM) at_ else none) true
    refine Ev.pos (by rw [List.length_map]; omega) ?_
    unfold EL.rest
    by_cases a0 : at_ < 0
    · exact Ev.pos a0 (Ev.now _)
    refine Ev.neg a0 ?_
    by_cases a1 : at_ > ((gs.map PM).length : Int)
    · exact Ev.pos a1 (Ev.now _)
    refine Ev.neg a1 ?_
    have hPM : ∀ s ∈ gs.map PM, s.size ≤ 1100000 := by
      intro s hs
      obtain ⟨x, hx, rfl⟩ := List.mem_map.1 hs
      have := (hg x hx).2.2
      have z := prt_len x.f0 (B x.f1)
      show (mk (PP x)).size ≤ _
      rw [size_B, B_mk]
      unfold PP
      rw [← size_B] at z
      omega
    have take_ok : ∀ i, (gs.map PM).take i = (gs.take i).map PM := fun i => by rw [List.map_take]
    have drop_ok : ∀ i, (gs.map PM).drop i = (gs.drop i).map PM := fun i => by rw [List.map_drop]
    have sp_len : ∀ (m : List S28), m.length ≤ 40 → (∀ x ∈ m, good x) → (splits (m.map PM)).length ≤ 40 ∧ ∀ x ∈ splits (m.map PM), x.length ≤ 1000 := by
      intro m hm hgm
      rw [splits_PM m hgm]
      refine ⟨by rw [List.length_map]; omega, fun x hx => ?_⟩
      obtain ⟨y, hy, rfl⟩ := List.mem_map.1 hx
      have := (hgm y hy).2.2
      have z := prt_len y.f0 (B y.f1)
      unfold PP
      rw [← size_B] at z
      omega
    have hgt : ∀ i, ∀ x ∈ gs.take i, good x := fun i x hx => hg x (List.mem_of_mem_take hx)
    have hgd : ∀ i, ∀ x ∈ gs.drop i, good x := fun i x hx => hg x (List.mem_of_mem_drop hx)
    have ins_sp : ∀ y : List UInt8, pieces y = [y] → splits (EL.ins (gs.map PM) at_ (mk y)) = (gs.take at_.toNat).map PP ++ y :: (gs.drop at_.toNat).map PP := by
      intro y hy
      unfold EL.ins
      rw [splits_app, splits_app, List.nil_append, take_ok, drop_ok, splits_PM _ (hgt _), splits_PM _ (hgd _)]
      have : splits [mk y] = [y] := by unfold splits; rw [List.flatMap_cons, B_mk, hy]; rfl
      rw [this, List.append_assoc]; rfl
    have ins_ok : ∀ y : List UInt8, pieces y = [y] → y.length ≤ 1000 → Ev (fun k => etag_List.f k (EL.ins (gs.map PM) at_ (mk y))) (tagsOf P28 ((gs.take at_.toNat).map PP ++ y :: (gs.drop at_.toNat).map PP)) := by
      intro y hy hyl
      have tl : (gs.take at_.toNat).length ≤ gs.length := by rw [List.length_take]; omega
      have dl : (gs.drop at_.toNat).length ≤ gs.length := by rw [List.length_drop]; omega
      have := List_ok (EL.ins (gs.map PM) at_ (mk y)) (by unfold EL.ins; rw [List.length_append, List.length_append, take_ok, drop_ok]; simp; omega) (fun s hs => by
        unfold EL.ins at hs
        simp only [List.nil_append, List.mem_append, List.mem_singleton] at hs
        rcases hs with (hs | hs) | hs
        · exact hPM s (List.mem_of_mem_take hs)
        · rw [hs, size_B, B_mk]; omega
        · exact hPM s (List.mem_of_mem_drop hs)) (by
        rw [ins_sp y hy, List.length_append, List.length_cons, List.length_map, List.length_map]; omega) (fun x hx => by
        rw [ins_sp y hy] at hx
        rcases List.mem_append.1 hx with hx | hx
        · have := (sp_len (gs.take at_.toNat) (by omega) (hgt _)).2 x (by rw [splits_PM _ (hgt _)]; exact hx); omega
        · rcases List.mem_cons.1 hx with rfl | hx
          · omega
          · have := (sp_len (gs.drop at_.toNat) (by omega) (hgd _)).2 x (by rw [splits_PM _ (hgd _)]; exact hx); omega)
      rw [ins_sp y hy] at this
      exact this
    have h1 : Ev (fun k => etag_List.f k (gs.map PM)) (tagsOf P28 (gs.map PP)) := by
      obtain ⟨z1, z2⟩ := sp_len gs (by omega) hg
      have := List_ok (gs.map PM) (by rw [List.length_map]; omega) hPM (by omega) (fun x hx => by have := z2 x hx; omega)
      rw [splits_PM gs hg] at this
      exact this
    have e1 : tagsOf P28 (gs.map PP) = ((gs.map fun x => (x.f0, B x.f1)).map P28, false, decide ((((gs.map fun x => (x.f0, B x.f1)).map P28).length : Int) > 0)) := by
      unfold tagsOf
      rw [star_list gs, tgs_list gs hg]; rfl
    have h2 := ins_ok [120] (by decide) (by decide)
    have e2 : tagsOf P28 ((gs.take at_.toNat).map PP ++ [120] :: (gs.drop at_.toNat).map PP) = ([], false, false) := by
      unfold tagsOf
      have hs : star ((gs.take at_.toNat).map PP ++ [120] :: (gs.drop at_.toNat).map PP) = false := by
        unfold star
        refine decide_eq_false fun e => ?_
        have m : ([120] : List UInt8) ∈ (gs.take at_.toNat).map PP ++ [120] :: (gs.drop at_.toNat).map PP := by simp
        rw [e] at m
        exact absurd (List.mem_singleton.1 m) (by decide)
      rw [hs, tgs_bad _ _ _ (by decide)]; rfl
    have h3 := ins_ok [42] (by decide) (by decide)
    rw [e1] at h1
    rw [e2] at h2
    refine Ev.bind h1 (Ev.bind h2 (Ev.bind h3 ?_))
    refine Ev.congr (fun _ => ?_) (Ev.now true)
    congr 1
    unfold EL.chk
    have e3 : tagsOf P28 ((gs.take at_.toNat).map PP ++ [42] :: (gs.drop at_.toNat).map PP) = ([], decide (gs.length = 0), decide (gs.length = 0)) := by
      unfold tagsOf
      by_cases z : gs.length = 0
      · have : gs = [] := List.length_eq_zero_iff.1 z
        subst this
        rw [List.take_nil, List.drop_nil]
        have hs : star (([] : List S28).map PP ++ [42] :: ([] : List S28).map PP) = true := by unfold star; exact decide_eq_true rfl
        rw [hs]; rfl
      · have hs : star ((gs.take at_.toNat).map PP ++ [42] :: (gs.drop at_.toNat).map PP) = false := by
          unfold star
          refine decide_eq_false fun e => ?_
          have l1 := congrArg List.length e
          rw [List.length_append, List.length_cons, List.length_map, List.length_map, List.length_take, List.length_drop] at l1
          simp at l1
          omega
        rw [hs, tgs_bad _ _ _ (by decide), decide_eq_false z]; rfl
    rw [e3]
    simp only [List.length_map]
    by_cases z : gs.length = 0
    · simp [z]
    · have : 0 < gs.length := by omega
      simp [z, this]

end Go.Proofs.YtkocfhjkhcmakaaDoor.Pure
