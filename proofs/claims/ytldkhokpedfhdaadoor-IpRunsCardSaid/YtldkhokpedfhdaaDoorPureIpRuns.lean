/-
The law IpRuns, over the Lean functions that its walk computes: a run of zeros is read written out and left out; twice left out, or nine numbers, are no machine.
-/
import Derived.Test.YtldkhokpedfhdaaDoorK6
set_option linter.unusedVariables false
set_option linter.unusedSimpArgs false
namespace Go.Proofs.YtldkhokpedfhdaaDoor.Pure
open Go.RowKit Go.Proofs.YtldkhokpedfhdaaDoor.K Go.Proofs.YtldkhokpedfhdaaDoorW.PrintWords Go.Proofs.YtldkhokpedfhdaaDoorW.PrintLast
/-- Where '::' first begins. -/
def colons : List UInt8 → Option Nat
  | [] => none
  | a :: r => if a = 58 ∧ r.head? = some 58 then some 0 else (colons r).map (· + 1)
theorem colons_lt : ∀ (l : List UInt8) (n : Nat), colons l = some n → n + 2 ≤ l.length
  | [], n, h => by cases h
  | a :: r, n, h => by
    unfold colons at h
    split at h
    · rename_i h1
      obtain rfl := Option.some.inj h
      cases r with
      | nil => simp at h1
      | cons b r => simp
    · cases hr : colons r with
      | none => rw [hr] at h; cases h
      | some m =>
        rw [hr] at h
        have e : m + 1 = n := Option.some.inj h
        have := colons_lt r m hr
        rw [List.length_cons]; omega
theorem wrap_id {x : Int} (h0 : -9223372036854775808 ≤ x) (h1 : x ≤ 9223372036854775807) : wrap64 x = x := by unfold wrap64; omega
theorem Ev.succ {α : Type} {g : Nat → Option α} {r : α} (h : Ev (fun k => g (k + 1)) r) : Ev g r := Ev.step (fun _ => rfl) h
theorem Ev.konst {α : Type} {o : Option α} {r : α} (h : o = some r) : Ev (fun _ => o) r := ⟨0, fun _ _ => h⟩
theorem Ev.at {α : Type} {g : Nat → Option α} {r : α} (K : Nat) (h : ∀ k, g (k + K) = some r) : Ev g r := ⟨K, fun n hn => by
  obtain ⟨m, rfl⟩ : ∃ m, n = m + K := ⟨n - K, by omega⟩
  exact h m⟩
theorem drop_cons {α : Type} {l : List α} {i : Nat} {c : α} {t : List α} (h : l.drop i = c :: t) : i < l.length ∧ l[i]? = some c ∧ l.drop (i + 1) = t := by
  have h1 : (l.drop i)[0]? = some c := by rw [h]; rfl
  rw [List.getElem?_drop] at h1
  simp only [Nat.add_zero] at h1
  refine ⟨(List.getElem?_eq_some_iff.1 h1).1, h1, ?_⟩
  rw [← List.drop_drop, h]; rfl
theorem drop_nil {α : Type} {l : List α} {i : Nat} (h : l.drop i = []) : l.length ≤ i := by
  simpa using h
theorem rd_of {l : List Int} {i : Nat} {c : Int} (h : l[i]? = some c) : rd l (i : Int) = c := by
  unfold rd; rw [Int.toNat_natCast, List.getD_eq_getElem?_getD, h]; rfl
theorem rdOf_of {α : Type} {d : α} {l : List α} {i : Nat} {c : α} (h : l[i]? = some c) : rdOf d l (i : Int) = c := by
  unfold rdOf; rw [Int.toNat_natCast, List.getD_eq_getElem?_getD, h]; rfl
theorem cast_succ (i : Nat) : ((i : Int) + 1) = ((i + 1 : Nat) : Int) := by omega
theorem Ev.tell {α : Type} {a r : α} (h : a = r) : Ev (fun _ => some a) r := h ▸ Ev.now a
theorem Ev.pos {α : Type} {c : Prop} [Decidable c] {A B : Nat → Option α} {r : α} (h : c) (k : Ev A r) : Ev (fun n => if c then A n else B n) r := Ev.congr (fun _ => if_pos h) k
theorem Ev.neg {α : Type} {c : Prop} [Decidable c] {A B : Nat → Option α} {r : α} (h : ¬ c) (k : Ev B r) : Ev (fun n => if c then A n else B n) r := Ev.congr (fun _ => if_neg h) k
theorem Ev.ite {α : Type} {c : Prop} [Decidable c] {A B : Nat → Option α} {r : α} (h : c → Ev A r) (k : ¬ c → Ev B r) : Ev (fun n => if c then A n else B n) r := by
  by_cases q : c
  · exact Ev.pos q (h q)
  · exact Ev.neg q (k q)
theorem Ev.bnd {α β : Type} {o : Option β} {a : β} {f : Nat → β → Option α} {r : α} (h : o = some a) (k : Ev (fun n => f n a) r) : Ev (fun n => o.bind (f n)) r := by
  subst h; exact k
/-- A text's bytes. -/
def B (s : ByteArray) : List UInt8 := s.data.toList
def mk (l : List UInt8) : ByteArray := ⟨l.toArray⟩
theorem B_mk (l : List UInt8) : B (mk l) = l := rfl
theorem mk_B (s : ByteArray) : mk (B s) = s := rfl
theorem B_inj {s t : ByteArray} (h : B s = B t) : s = t := by rw [← mk_B s, ← mk_B t, h]
theorem toList_B (s : ByteArray) : s.toList = B s := Lib.toList_data s
theorem size_B (s : ByteArray) : s.size = (B s).length := Lib.size_eq s
theorem B_extract (s : ByteArray) (a b : Nat) : B (s.extract a b) = ((B s).drop a).take (b - a) := Lib.extract_data s a b
theorem B_append (s t : ByteArray) : B (s ++ t) = B s ++ B t := by
  unfold B
  rw [ByteArray.data_append, Array.toList_append]
theorem B_to (s : ByteArray) (n : Nat) : B (s.extract 0 n) = (B s).take n := by rw [B_extract, List.drop_zero, Nat.sub_zero]
theorem B_from (s : ByteArray) (n : Nat) : B (s.extract n s.size) = (B s).drop n := by
  rw [B_extract, size_B]
  exact List.take_of_length_le (by rw [List.length_drop]; omega)
theorem bt_of {s : ByteArray} {i : Nat} {c : UInt8} (h : (B s)[i]? = some c) : bt s (i : Int) = (c.toNat : Int) := by
  unfold bt
  have hi : i < s.size := by rw [size_B]; exact (List.getElem?_eq_some_iff.1 h).1
  rw [Int.toNat_natCast, dif_pos hi]
  have : (s[i]'hi) = c := by
    have h1 : (B s)[i]? = some (s[i]'hi) := by
      unfold B
      rw [Array.getElem?_toList]
      exact Array.getElem?_eq_getElem _
    rw [h1] at h
    exact Option.some.inj h
  rw [this]
/-- The byte that a suffix begins with. -/
theorem bt_drop {s : ByteArray} {i : Nat} {c : UInt8} {t : List UInt8} (h : (B s).drop i = c :: t) : bt s (i : Int) = (c.toNat : Int) ∧ i < s.size ∧ (B s).drop (i + 1) = t := by
  obtain ⟨h1, h2, h3⟩ := drop_cons h
  exact ⟨bt_of h2, by rw [size_B]; exact h1, h3⟩
theorem end_drop {s : ByteArray} {i : Nat} (h : (B s).drop i = []) : s.size ≤ i := by rw [size_B]; exact drop_nil h
theorem u8_eq (c : UInt8) (n : Nat) (h : n < 256) : ((c.toNat : Int) = (n : Int)) ↔ c = UInt8.ofNat n := by
  constructor
  · intro e
    have e' : c.toNat = n := by omega
    rw [← e']; exact (UInt8.ofNat_toNat).symm
  · intro e
    rw [e, UInt8.toNat_ofNat']
    have : n % 2 ^ 8 = n := Nat.mod_eq_of_lt h
    omega
theorem u8_lt (c : UInt8) : (c.toNat : Int) < 256 ∧ 0 ≤ (c.toNat : Int) := by
  have := UInt8.toNat_lt c
  omega
/-- A text cut at a byte. -/
def spl (c : UInt8) : List UInt8 → List (List UInt8)
  | [] => [[]]
  | b :: t => if b = c then [] :: spl c t else (b :: (spl c t).headD []) :: (spl c t).tail
theorem spl_ne (c : UInt8) (l : List UInt8) : spl c l ≠ [] := by
  cases l with
  | nil => simp [spl]
  | cons b t => unfold spl; split <;> simp
theorem spl_whole (c : UInt8) : ∀ p : List UInt8, c ∉ p → spl c p = [p]
  | [], _ => rfl
  | b :: t, h => by
    have hb : b ≠ c := fun e => h (by simp [e])
    rw [spl, if_neg hb, spl_whole c t (fun e => h (by simp [e]))]; rfl
theorem spl_cut (c : UInt8) (r : List UInt8) : ∀ p : List UInt8, c ∉ p → spl c (p ++ c :: r) = p :: spl c r
  | [], _ => by simp [spl]
  | b :: t, h => by
    have hb : b ≠ c := fun e => h (by simp [e])
    rw [List.cons_append, spl, if_neg hb, spl_cut c r t (fun e => h (by simp [e]))]; rfl
theorem spl_one (c : UInt8) : ∀ l p : List UInt8, spl c l = [p] → l = p ∧ c ∉ p
  | [], p, h => by simp [spl] at h; subst h; simp
  | b :: t, p, h => by
    unfold spl at h
    split at h
    · injection h with h1 h2; exact absurd h2 (spl_ne c t)
    · rename_i hb
      injection h with h1 h2
      have ht : spl c t = [(spl c t).headD []] := by
        cases hs : spl c t with
        | nil => exact absurd hs (spl_ne c t)
        | cons a r => rw [hs] at h2; simp at h2; rw [h2]; rfl
      obtain ⟨e1, e2⟩ := spl_one c t _ ht
      rw [← h1]
      refine ⟨by rw [← e1], ?_⟩
      intro e
      rcases List.mem_cons.1 e with q | q
      · exact hb q.symm
      · exact e2 q
theorem spl_more (c : UInt8) : ∀ l p q r, spl c l = p :: q :: r → ∃ m, l = p ++ c :: m ∧ c ∉ p ∧ spl c m = q :: r
  | [], p, q, r, h => by simp [spl] at h
  | b :: t, p, q, r, h => by
    unfold spl at h
    split at h
    · rename_i hb
      injection h with h1 h2
      exact ⟨t, by rw [← h1, hb]; rfl, by rw [← h1]; simp, h2⟩
    · rename_i hb
      injection h with h1 h2
      have ht : spl c t = (spl c t).headD [] :: q :: r := by
        cases hs : spl c t with
        | nil => exact absurd hs (spl_ne c t)
        | cons a r' => rw [hs] at h2; simp at h2; rw [h2]; rfl
      obtain ⟨m, e1, e2, e3⟩ := spl_more c t _ q r ht
      refine ⟨m, by rw [← h1, List.cons_append, ← e1], ?_, e3⟩
      rw [← h1]
      intro e
      rcases List.mem_cons.1 e with q | q
      · exact hb q.symm
      · exact e2 q
theorem spl3 {c : UInt8} {l p0 p1 p2 : List UInt8} (h : spl c l = [p0, p1, p2]) : l = p0 ++ c :: (p1 ++ c :: p2) ∧ c ∉ p0 ∧ c ∉ p1 ∧ c ∉ p2 := by
  obtain ⟨m, rfl, h0, h⟩ := spl_more c _ _ _ _ h
  obtain ⟨m, rfl, h1, h⟩ := spl_more c _ _ _ _ h
  obtain ⟨rfl, h2⟩ := spl_one c _ _ h
  exact ⟨rfl, h0, h1, h2⟩
theorem spl3' {c : UInt8} {p0 p1 p2 : List UInt8} (h0 : c ∉ p0) (h1 : c ∉ p1) (h2 : c ∉ p2) : spl c (p0 ++ c :: (p1 ++ c :: p2)) = [p0, p1, p2] := by
  rw [spl_cut c _ _ h0, spl_cut c _ _ h1, spl_whole c _ h2]
theorem spl4 {c : UInt8} {l p0 p1 p2 p3 : List UInt8} (h : spl c l = [p0, p1, p2, p3]) : l = p0 ++ c :: (p1 ++ c :: (p2 ++ c :: p3)) ∧ c ∉ p0 ∧ c ∉ p1 ∧ c ∉ p2 ∧ c ∉ p3 := by
  obtain ⟨m, rfl, h0, h⟩ := spl_more c _ _ _ _ h
  obtain ⟨rfl, q⟩ := spl3 h
  exact ⟨rfl, h0, q⟩
theorem spl4' {c : UInt8} {p0 p1 p2 p3 : List UInt8} (h0 : c ∉ p0) (h1 : c ∉ p1) (h2 : c ∉ p2) (h3 : c ∉ p3) : spl c (p0 ++ c :: (p1 ++ c :: (p2 ++ c :: p3))) = [p0, p1, p2, p3] := by
  rw [spl_cut c _ _ h0, spl3' h1 h2 h3]
theorem spl6 {c : UInt8} {l p0 p1 p2 p3 p4 p5 : List UInt8} (h : spl c l = [p0, p1, p2, p3, p4, p5]) : l = p0 ++ c :: (p1 ++ c :: (p2 ++ c :: (p3 ++ c :: (p4 ++ c :: p5)))) ∧ c ∉ p0 ∧ c ∉ p1 ∧ c ∉ p2 ∧ c ∉ p3 ∧ c ∉ p4 ∧ c ∉ p5 := by
  obtain ⟨m, rfl, h0, h⟩ := spl_more c _ _ _ _ h
  obtain ⟨m, rfl, h1, h⟩ := spl_more c _ _ _ _ h
  obtain ⟨rfl, q⟩ := spl4 h
  exact ⟨rfl, h0, h1, q⟩
theorem spl6' {c : UInt8} {p0 p1 p2 p3 p4 p5 : List UInt8} (h0 : c ∉ p0) (h1 : c ∉ p1) (h2 : c ∉ p2) (h3 : c ∉ p3) (h4 : c ∉ p4) (h5 : c ∉ p5) : spl c (p0 ++ c :: (p1 ++ c :: (p2 ++ c :: (p3 ++ c :: (p4 ++ c :: p5))))) = [p0, p1, p2, p3, p4, p5] := by
  rw [spl_cut c _ _ h0, spl_cut c _ _ h1, spl4' h2 h3 h4 h5]
theorem spl_hd (c : UInt8) : ∀ (p r : List UInt8), c ∉ p → (spl c (p ++ c :: r)).head? = some p := fun p r h => by rw [spl_cut c r p h]; rfl
theorem splK_cons (c b : UInt8) (h : b ≠ c) : ∀ (k : Nat) (t : List UInt8), Lib.splitK [c] 0 k (b :: t) = (b :: (Lib.splitK [c] 0 k t).headD []) :: (Lib.splitK [c] 0 k t).tail
  | 0, t => rfl
  | k + 1, t => by
    have hp : ([c] : List UInt8).isPrefixOf (b :: t) = false := by simp [List.isPrefixOf, Ne.symm h]
    have hix : Lib.index (b :: t) [c] = if Lib.index t [c] == -1 then -1 else Lib.index t [c] + 1 := by rw [Lib.index, hp]; simp
    have hge := Lib.index_ge t [c]
    unfold Lib.splitK
    rw [hix]
    by_cases hm : Lib.index t [c] = -1
    · simp [hm]
    · have e1 : (Lib.index t [c] == -1) = false := by simpa using hm
      have e2 : (Lib.index t [c] + 1 == -1) = false := by simp; omega
      obtain ⟨j, hj⟩ : ∃ j : Nat, Lib.index t [c] = j := ⟨(Lib.index t [c]).toNat, by omega⟩
      rw [e1]
      simp only [Bool.false_eq_true, if_false]
      rw [e2]
      simp only [Bool.false_eq_true, if_false, hj, List.headD_cons, List.tail_cons, List.length_singleton]
      have e3 : ((j : Int) + 1).toNat = j + 1 := by omega
      rw [e3, Int.toNat_natCast]
      rfl
theorem splK_eq (c : UInt8) : ∀ l : List UInt8, Lib.splitK [c] 0 (Lib.count l [c]) l = spl c l
  | [] => by
    have : Lib.index [] [c] = -1 := rfl
    rw [Lib.count_miss this]; rfl
  | b :: t => by
    by_cases h : b = c
    · subst h
      have hix : Lib.index (b :: t) [b] = 0 := by rw [Lib.index]; simp [List.isPrefixOf]
      rw [Lib.count_cons_eq, Nat.add_comm, Lib.splitK, hix, spl, if_pos rfl, ← splK_eq b t]
      rfl
    · rw [Lib.count_cons_ne b c t h, splK_cons c b h, splK_eq c t, spl, if_neg h]
theorem splB_eq (c : UInt8) (s : ByteArray) : Lib.splitB (⟨#[c]⟩ : ByteArray) 0 (Lib.countB s (⟨#[c]⟩ : ByteArray)) s = (spl c (B s)).map mk := by
  have h := Lib.splitB_data (⟨#[c]⟩ : ByteArray) 0 (Lib.countB s (⟨#[c]⟩ : ByteArray)) s
  have e : Lib.splitK [c] 0 (Lib.countB s (⟨#[c]⟩ : ByteArray)) s.data.toList = spl c (B s) := splK_eq c (B s)
  rw [← e]
  have h2 : ∀ l : List ByteArray, l = (l.map (·.data.toList)).map mk := fun l => by
    rw [List.map_map]; simp [Function.comp_def, mk]
  rw [h2 (Lib.splitB _ _ _ _), h]
theorem Split_ok (s : ByteArray) (c : UInt8) (hs : s.size < 4294967281) : strings_Split.f s (⟨#[c]⟩ : ByteArray) = some ((spl c (B s)).map mk) := by
  unfold strings_Split.f
  rw [if_pos hs, if_pos (show (⟨#[c]⟩ : ByteArray).size = 1 from rfl), splB_eq]
theorem spl_hdtl' (c : UInt8) (l : List UInt8) : spl c l = (spl c l).headD [] :: (spl c l).tail := by
  cases h : spl c l with
  | nil => exact absurd h (spl_ne c l)
  | cons p r => rfl
/-- A text cut at its points. -/
def prts (l : List UInt8) : List (List UInt8) := if 1 < (spl 46 l).length ∧ (spl 46 l).getLast? = some [] then (spl 46 l).dropLast else spl 46 l
theorem prts_ne (l : List UInt8) : prts l ≠ [] := by
  unfold prts
  split
  · rename_i h
    intro q
    have := congrArg List.length q
    rw [List.length_dropLast, List.length_nil] at this
    omega
  · exact spl_ne 46 l
theorem parts_if {k : Nat} {p : List (List UInt8)} (hne : p ≠ []) (hl : p.length ≤ 1000000001) :
    (if (wrap64 (((p.map mk).length : Int) - 1)) > 0 then (if 0 ≤ (wrap64 (((p.map mk).length : Int) - 1)) then (if (wrap64 (((p.map mk).length : Int) - 1)) < ((p.map mk).length : Int) then (if (rdOf ByteArray.empty (p.map mk) (wrap64 (((p.map mk).length : Int) - 1))).toList = ([] : List UInt8) then (if (wrap64 (((p.map mk).length : Int) - 1)) ≤ ((p.map mk).length : Int) then (some ((p.map mk).take ((wrap64 (((p.map mk).length : Int) - 1)) : Int).toNat)) else (none)) else (some (p.map mk))) else (none)) else (none)) else (some (p.map mk)))
    = some ((if 1 < p.length ∧ p.getLast? = some [] then p.dropLast else p).map mk) := by
  have hpos : 0 < p.length := List.length_pos_iff.2 hne
  rw [List.length_map, wrap_id (by omega) (by omega)]
  by_cases h1 : 1 < p.length
  · rw [if_pos (by omega), if_pos (by omega), if_pos (by omega)]
    have e : (p.length : Int) - 1 = ((p.length - 1 : Nat) : Int) := by omega
    have hg : (p.map mk)[p.length - 1]? = some (mk (p.getLast hne)) := by
      rw [List.getElem?_map, ← List.getLast?_eq_getElem?, List.getLast?_eq_some_getLast hne]; rfl
    rw [e, rdOf_of hg, toList_B, B_mk, if_pos (show ((p.length - 1 : Nat) : Int) ≤ (p.length : Int) by omega), Int.toNat_natCast]
    by_cases h2 : p.getLast hne = []
    · rw [if_pos h2, if_pos ⟨h1, by rw [List.getLast?_eq_some_getLast hne, h2]⟩, List.dropLast_eq_take, List.map_take]
    · rw [if_neg h2, if_neg (fun q => h2 (by have z := q.2; rw [List.getLast?_eq_some_getLast hne] at z; exact Option.some.inj z))]
  · rw [if_neg (by omega), if_neg (fun q => h1 q.1)]
theorem spl_len (c : UInt8) : ∀ l : List UInt8, (spl c l).length ≤ l.length + 1
  | [] => Nat.le_refl _
  | b :: t => by
    have ih := spl_len c t
    unfold spl
    split
    · rw [List.length_cons, List.length_cons]; omega
    · rw [List.length_cons, List.length_cons, List.length_tail]; omega
theorem parts_prog (s : ByteArray) (hs : s.size ≤ 1000000000) : ip_parts.f s = some ((prts (B s)).map mk) := by
  unfold ip_parts.f
  rw [Split_ok s 46 (by omega), Option.bind_some]
  have hz := size_B s
  exact parts_if (k := 0) (spl_ne 46 (B s)) (Nat.le_trans (spl_len 46 (B s)) (by omega))
/-- A digit's value; -1: it is none. -/
def dv (c : UInt8) : Int := if 48 ≤ c.toNat ∧ c.toNat ≤ 57 then (c.toNat : Int) - 48 else if 97 ≤ c.toNat ∧ c.toNat ≤ 102 then (c.toNat : Int) - 87 else if 65 ≤ c.toNat ∧ c.toNat ≤ 70 then (c.toNat : Int) - 55 else -1
def isD (b : Int) (c : UInt8) : Bool := decide (0 ≤ dv c) && decide (dv c < b)
theorem u8_all {p : UInt8 → Prop} (h : ∀ n : Fin 256, p (UInt8.ofNat n.val)) (c : UInt8) : p c := by
  have := h ⟨c.toNat, UInt8.toNat_lt c⟩
  rwa [UInt8.ofNat_toNat] at this
set_option maxRecDepth 100000 in
theorem digit_prog (c : UInt8) : ip_digit.f (c.toNat : Int) = some (dv c) := u8_all (p := fun c => ip_digit.f (c.toNat : Int) = some (dv c)) (by decide +kernel) c
theorem dv_rng (c : UInt8) : -1 ≤ dv c ∧ dv c < 16 := by
  unfold dv
  split
  · omega
  · split
    · omega
    · split <;> omega
/-- A number's value, saturating. -/
def numL (cap b : Int) : List UInt8 → Int → Int
  | [], n => n
  | c :: t, n => numL cap b t (mn (n * b + dv c) cap)
def valL (b : Int) : List UInt8 → Int → Int
  | [], n => n
  | c :: t, n => valL b t (n * b + dv c)
def nm (cap b : Int) (l : List UInt8) : Int × Bool := if l.all (isD b) = true then (numL cap b l 0, true) else (0, false)
theorem isD_iff {b : Int} {c : UInt8} : isD b c = true ↔ 0 ≤ dv c ∧ dv c < b := by simp [isD]
theorem numL_val (cap b : Int) (hb : b = 8 ∨ b = 10 ∨ b = 16) (hc : 0 ≤ cap) : ∀ (l : List UInt8) (n : Int), l.all (isD b) = true → 0 ≤ n → numL cap b l (mn n cap) = mn (valL b l n) cap
  | [], n, _, _ => rfl
  | c :: t, n, h, h0 => by
    rw [List.all_cons, Bool.and_eq_true, isD_iff] at h
    obtain ⟨⟨h1, h2⟩, h3⟩ := h
    unfold numL valL
    have e : mn ((mn n cap) * b + dv c) cap = mn (n * b + dv c) cap := by
      unfold mn
      rcases hb with rfl | rfl | rfl <;> (repeat' split) <;> omega
    have e2 : 0 ≤ n * b + dv c := by rcases hb with rfl | rfl | rfl <;> omega
    rw [e]
    exact numL_val cap b hb hc t _ h3 e2
theorem valL_ge (b : Int) (hb : b = 8 ∨ b = 10 ∨ b = 16) : ∀ (l : List UInt8) (n : Int), l.all (isD b) = true → 0 ≤ n → 0 ≤ valL b l n
  | [], n, _, h => h
  | c :: t, n, h, h0 => by
    rw [List.all_cons, Bool.and_eq_true, isD_iff] at h
    exact valL_ge b hb t _ h.2 (by rcases hb with rfl | rfl | rfl <;> omega)
/-- What is told of a part's value: it may be cut at either ceiling. -/
theorem nm_caps {b : Int} (hb : b = 8 ∨ b = 10 ∨ b = 16) (l : List UInt8) : ∃ v : Int, 0 ≤ v ∧ ∀ cap, 0 ≤ cap → nm cap b l = if l.all (isD b) = true then (mn v cap, true) else (0, false) := by
  by_cases h : l.all (isD b) = true
  · refine ⟨valL b l 0, valL_ge b hb l 0 h (by omega), fun cap hc => ?_⟩
    have z := numL_val cap b hb hc l 0 h (by omega)
    rw [show mn 0 cap = 0 by unfold mn; split <;> omega] at z
    unfold nm
    rw [if_pos h, if_pos h, z]
  · exact ⟨0, by omega, fun cap hc => by unfold nm; rw [if_neg h, if_neg h]⟩
theorem nm_val {cap b : Int} (hb : b = 8 ∨ b = 10 ∨ b = 16) (hc : 0 ≤ cap) {l : List UInt8} (h : l.all (isD b) = true) : nm cap b l = (mn (valL b l 0) cap, true) := by
  have z := numL_val cap b hb hc l 0 h (by omega)
  rw [show mn 0 cap = 0 by unfold mn; split <;> omega] at z
  unfold nm
  rw [if_pos h, z]
theorem nm_no {cap b : Int} {l : List UInt8} (h : ¬ l.all (isD b) = true) : nm cap b l = (0, false) := by unfold nm; rw [if_neg h]
theorem mn_id {v c : Int} (h : v ≤ c) : mn v c = v := by unfold mn; split <;> omega
theorem number_loop (b : Int) (hb : b = 8 ∨ b = 10 ∨ b = 16) (s : ByteArray) (hs : s.size ≤ 1000000000) : ∀ (t : List UInt8) (i : Nat) (n : Int), (B s).drop i = t → i ≤ s.size → 0 ≤ n → n ≤ 8589934592 → Ev (fun k => ip_number.l0 k s b n (s.size : Int) (i : Int)) (if t.all (isD b) = true then (numL 8589934592 b t n, true) else (0, false))
  | [], i, n, h, hi, h0, h1 => by
    have := end_drop h
    exact Ev.step (fun _ => ip_number.l0.eq_2 ..) (Ev.neg (by omega) (Ev.now _))
  | c :: t, i, n, h, hi, h0, h1 => by
    obtain ⟨e1, e2, e3⟩ := bt_drop h
    have hd := dv_rng c
    refine Ev.step (fun _ => ip_number.l0.eq_2 ..) (Ev.pos (by omega) (Ev.pos (by omega) (Ev.pos (by omega) (Ev.bnd (by rw [e1]; exact digit_prog c) ?_))))
    by_cases hD : isD b c = true
    · have hD' := isD_iff.1 hD
      have ew : wrap64 (wrap64 (n * b) + dv c) = n * b + dv c := by
        rcases hb with rfl | rfl | rfl <;> (rw [wrap_id (x := n * _) (by omega) (by omega), wrap_id (by omega) (by omega)])
      have hr : 0 ≤ mn (n * b + dv c) 8589934592 ∧ mn (n * b + dv c) 8589934592 ≤ 8589934592 := by
        unfold mn
        rcases hb with rfl | rfl | rfl <;> (split <;> omega)
      have ih := number_loop b hb s hs t (i + 1) (mn (n * b + dv c) 8589934592) e3 (by omega) hr.1 hr.2
      rw [List.all_cons, hD, Bool.true_and]
      refine Ev.neg (by omega) (Ev.neg (by omega) ?_)
      rw [ew, wrap_id (x := (i : Int) + 1) (by omega) (by omega), cast_succ]
      exact ih
    · rw [List.all_cons, show isD b c = false by simpa using hD, Bool.false_and, if_neg (by simp)]
      by_cases h2 : dv c < 0
      · exact Ev.pos h2 (Ev.now _)
      · exact Ev.neg h2 (Ev.pos (by rw [isD_iff] at hD; omega) (Ev.now _))
theorem number_prog (b : Int) (hb : b = 8 ∨ b = 10 ∨ b = 16) (s : ByteArray) (hs : s.size ≤ 1000000000) : Ev (fun k => ip_number.f k s b) (nm 8589934592 b (B s)) := number_loop b hb s hs (B s) 0 0 rfl (by omega) (by omega) (by omega)
/-- Does a part begin with 0x? -/
def hexP : List UInt8 → Bool
  | a :: c :: _ => a == 48 && (c == 120 || c == 88)
  | _ => false
/-- A part's number. -/
def partV (cap : Int) (l : List UInt8) : Int × Bool :=
  if l = [] then (0, false) else if hexP l = true then nm cap 16 (l.drop 2) else if l.head? = some 48 ∧ 1 < l.length then nm cap 8 (l.drop 1) else nm cap 10 l
theorem toList_nil {s : ByteArray} : s.toList = ([] : List UInt8) ↔ B s = [] := by rw [toList_B]
theorem prefix2 (s : ByteArray) (x : UInt8) (y : UInt8) : strings_HasPrefix.f s (⟨#[x, y]⟩ : ByteArray) = some (match B s with | a :: c :: _ => a == x && c == y | _ => false) := by
  unfold strings_HasPrefix.f stringslite_HasPrefix.f
  have h2 : (⟨#[x, y]⟩ : ByteArray).size = 2 := rfl
  rw [h2]
  have hz := size_B s
  by_cases h : (s.size : Int) ≥ ((2 : Nat) : Int)
  · rw [if_pos h, if_pos (by omega), if_pos (by omega)]
    rw [Option.bind_some, toList_B, toList_B, Int.toNat_natCast, B_to]
    congr 1
    show (List.take 2 (B s) == [x, y]) = _
    match hB : B s with
    | [] => rw [hB, List.length_nil] at hz; omega
    | [a] => rw [hB, List.length_singleton] at hz; omega
    | a :: c :: r => simp
  · rw [if_neg h, Option.bind_some]
    congr 1
    match hB : B s with
    | [] => rfl
    | [a] => rfl
    | a :: c :: r => rw [hB, List.length_cons, List.length_cons] at hz; omega
theorem pair_eta {α β : Type} (p : α × β) : (p.1, p.2) = p := rfl
theorem part_prog (s : ByteArray) (hs : s.size ≤ 1000000000) : Ev (fun k => ip_part.f k s) (partV 8589934592 (B s)) := by
  unfold partV
  by_cases h0 : B s = []
  · rw [if_pos h0]
    exact Ev.pos (toList_nil.2 h0) (Ev.now _)
  · rw [if_neg h0]
    have hz := size_B s
    refine Ev.neg (fun q => h0 (toList_nil.1 q)) (Ev.bnd (prefix2 s 48 120) ?_)
    have H2 : ∀ r : Int × Bool, hexP (B s) = true → r = nm 8589934592 16 ((B s).drop 2) → Ev (fun k => ip_part.j0 k s true) r := fun r hh hr => by
      have hl : 2 ≤ s.size := by
        match hB : B s with
        | [] => rw [hB] at hh; cases hh
        | [a] => rw [hB] at hh; cases hh
        | a :: c :: t => rw [hB, List.length_cons, List.length_cons] at hz; omega
      refine Ev.step (fun _ => ip_part.j0.eq_2 ..) (Ev.pos rfl (Ev.pos (by omega) ?_))
      refine Ev.bind (number_prog 16 (by omega) (s.extract 2 s.size) ?_) ?_
      · rw [size_B, B_from, List.length_drop]; omega
      · rw [B_from, pair_eta, ← hr]; exact Ev.now _
    have H0 : hexP (B s) = false → Ev (fun k => ip_part.j0 k s false) (if (B s).head? = some 48 ∧ 1 < (B s).length then nm 8589934592 8 ((B s).drop 1) else nm 8589934592 10 (B s)) := fun hh => by
      match hB : B s with
      | [] => exact absurd hB h0
      | a :: t =>
        have hb0 : bt s 0 = (a.toNat : Int) := bt_of (s := s) (i := 0) (by rw [hB]; rfl)
        rw [hB, List.length_cons] at hz
        have j1 : ∀ b : Bool, b = false → Ev (fun k => ip_part.j1 k s b) (nm 8589934592 10 (B s)) := fun b hb => by
          subst hb
          refine Ev.step (fun _ => ip_part.j1.eq_2 ..) (Ev.neg (by decide) (Ev.bind (number_prog 10 (by omega) s hs) ?_))
          exact Ev.now _
        refine Ev.step (fun _ => ip_part.j0.eq_2 ..) (Ev.neg (by decide) (Ev.pos (by omega) ?_))
        by_cases ha : a = 48
        · subst ha
          refine Ev.pos (by rw [hb0]; rfl) ?_
          by_cases hl : 1 < (48 :: t).length
          · rw [if_pos ⟨rfl, hl⟩]
            rw [List.length_cons] at hl
            refine Ev.congr (fun k => by rw [show decide ((s.size : Int) > 1) = true from decide_eq_true (by omega)]) ?_
            refine Ev.step (fun _ => ip_part.j1.eq_2 ..) (Ev.pos rfl (Ev.pos (by omega) ?_))
            refine Ev.bind (number_prog 8 (by omega) (s.extract 1 s.size) ?_) ?_
            · rw [size_B, B_from, List.length_drop, ← size_B]; omega
            · rw [B_from, hB, pair_eta]; exact Ev.now _
          · rw [if_neg (fun q => hl q.2), ← hB]
            rw [List.length_cons] at hl
            exact j1 _ (decide_eq_false (by omega))
        · rw [if_neg (fun q => ha (by simpa using q.1)), ← hB]
          exact Ev.neg (fun q => ha ((u8_eq a 48 (by omega)).1 (by rw [← hb0]; exact q))) (j1 _ rfl)
    match hB : B s with
    | [] => exact absurd hB h0
    | [a] =>
      refine Ev.neg (fun q => by cases q) (Ev.bnd (prefix2 s 48 88) ?_)
      rw [hB]
      have z := H0 (by rw [hB]; rfl)
      rw [hB] at z
      exact z
    | a :: c :: t =>
      by_cases hx : hexP (a :: c :: t) = true
      · rw [if_pos hx]
        have hh : hexP (B s) = true := by rw [hB]; exact hx
        by_cases hc : (a == 48 && c == 120) = true
        · refine Ev.pos hc (H2 _ hh (by rw [hB]))
        · refine Ev.neg hc (Ev.bnd (prefix2 s 48 88) ?_)
          rw [hB]
          have e : (a == 48 && c == 88) = true := by
            unfold hexP at hx
            simp only [Bool.and_eq_true, Bool.or_eq_true] at hx hc ⊢
            rcases hx with ⟨h1, h2 | h2⟩
            · exact absurd ⟨h1, h2⟩ hc
            · exact ⟨h1, h2⟩
          show Ev (fun n => ip_part.j0 n s (a == 48 && c == 88)) _
          rw [e]
          exact H2 _ hh (by rw [hB])
      · rw [if_neg hx]
        have hh : hexP (B s) = false := by rw [hB]; simpa using hx
        have z := H0 hh
        rw [hB] at z
        have e1 : ¬ (a == 48 && c == 120) = true := fun q => hx (by unfold hexP; simp only [Bool.and_eq_true, Bool.or_eq_true] at q ⊢; exact ⟨q.1, Or.inl q.2⟩)
        have e2 : (a == 48 && c == 88) = false := by
          cases hq : (a == 48 && c == 88) with
          | false => rfl
          | true => exact absurd (by unfold hexP; simp only [Bool.and_eq_true, Bool.or_eq_true] at hq ⊢; exact ⟨hq.1, Or.inr hq.2⟩) hx
        refine Ev.neg e1 (Ev.bnd (prefix2 s 48 88) ?_)
        rw [hB]
        show Ev (fun n => ip_part.j0 n s (a == 48 && c == 88)) _
        rw [e2]
        exact z
theorem spl_mem (c : UInt8) : ∀ (l x : List UInt8), x ∈ spl c l → x.length ≤ l.length
  | [], x, h => by
    have : x = [] := by simpa [spl] using h
    subst this; exact Nat.le_refl _
  | b :: t, x, h => by
    have ih := spl_mem c t
    unfold spl at h
    split at h
    · rcases List.mem_cons.1 h with rfl | h
      · exact Nat.zero_le _
      · exact Nat.le_trans (ih x h) (by rw [List.length_cons]; omega)
    · have hd := spl_hdtl' c t
      rcases List.mem_cons.1 h with rfl | h
      · have := ih ((spl c t).headD []) (by rw [hd]; exact List.mem_cons_self)
        rw [List.length_cons, List.length_cons]; omega
      · have := ih x (by rw [hd]; exact List.mem_cons_of_mem _ h)
        rw [List.length_cons]; omega
theorem prts_mem {l x : List UInt8} (h : x ∈ prts l) : x.length ≤ l.length := by
  unfold prts at h
  split at h
  · rw [List.dropLast_eq_take] at h
    exact spl_mem 46 l x (List.mem_of_mem_take h)
  · exact spl_mem 46 l x h
theorem prts_len (l : List UInt8) : (prts l).length ≤ l.length + 1 := by
  have := spl_len 46 l
  unfold prts
  split
  · rw [List.length_dropLast]; omega
  · exact this
theorem last_rd {p : List (List UInt8)} (hne : p ≠ []) (hl : p.length ≤ 1000000001) : rdOf ByteArray.empty (p.map mk) (wrap64 (((p.map mk).length : Int) - 1)) = mk (p.getLast hne) := by
  have hpos : 0 < p.length := List.length_pos_iff.2 hne
  rw [List.length_map, wrap_id (by omega) (by omega)]
  have e : (p.length : Int) - 1 = ((p.length - 1 : Nat) : Int) := by omega
  have hg : (p.map mk)[p.length - 1]? = some (mk (p.getLast hne)) := by
    rw [List.getElem?_map, ← List.getLast?_eq_getElem?, List.getLast?_eq_some_getLast hne]; rfl
  rw [e, rdOf_of hg]
def endX (x : List UInt8) : Bool := !x.isEmpty && (x.all (isD 10) || (hexP x && (x.drop 2).all (isD 16)))
def endsV (l : List UInt8) : Bool := endX ((prts l).getLast (prts_ne l))
theorem oct_dec {l : List UInt8} (h : l.all (isD 8) = true) : l.all (isD 10) = true := by
  rw [List.all_eq_true] at h ⊢
  intro x hx
  have := isD_iff.1 (h x hx)
  exact isD_iff.2 ⟨this.1, by omega⟩
theorem nm_ok (cap b : Int) (l : List UInt8) : (nm cap b l).2 = l.all (isD b) := by
  unfold nm
  split
  · rename_i h; exact h.symm
  · rename_i h; exact (by simpa using h : l.all (isD b) = false).symm
/-- The values of all parts. -/
def vals (cap : Int) : List (List UInt8) → Option (List Int)
  | [] => some []
  | x :: r => if (partV cap x).2 = true then (vals cap r).map ((partV cap x).1 :: ·) else none
/-- Four bytes out of one to four numbers. -/
def fourV : List Int → Int × Int
  | [a] => if a < 4294967296 then (a, 0) else (0, 1)
  | [a, b] => if a ≤ 255 ∧ b < 16777216 then (a * 16777216 + b, 0) else (0, 1)
  | [a, b, c] => if a ≤ 255 ∧ b ≤ 255 ∧ c < 65536 then (a * 16777216 + b * 65536 + c, 0) else (0, 1)
  | [a, b, c, d] => if a ≤ 255 ∧ b ≤ 255 ∧ c ≤ 255 ∧ d < 256 then (a * 16777216 + b * 65536 + c * 256 + d, 0) else (0, 1)
  | _ => (0, 4)
def P4 (cap : Int) (l : List UInt8) : Int × Int := if 4000 < l.length then (0, 11) else if 4 < (prts l).length then (0, 4) else match vals cap (prts l) with
  | none => (0, 4)
  | some n => fourV n
theorem partV_caps (l : List UInt8) : ∃ (v : Int) (ok : Bool), 0 ≤ v ∧ ∀ cap, 0 ≤ cap → partV cap l = if ok = true then (mn v cap, true) else (0, false) := by
  unfold partV
  split
  · exact ⟨0, false, by omega, fun _ _ => rfl⟩
  · split
    · obtain ⟨v, h, k⟩ := nm_caps (b := 16) (by omega) (l.drop 2); exact ⟨v, _, h, k⟩
    · split
      · obtain ⟨v, h, k⟩ := nm_caps (b := 8) (by omega) (l.drop 1); exact ⟨v, _, h, k⟩
      · obtain ⟨v, h, k⟩ := nm_caps (b := 10) (by omega) l; exact ⟨v, _, h, k⟩
theorem vals_caps : ∀ L : List (List UInt8), (∃ vs : List Int, (∀ v ∈ vs, 0 ≤ v) ∧ vs.length = L.length ∧ ∀ cap, 0 ≤ cap → vals cap L = some (vs.map (mn · cap))) ∨ ∀ cap, 0 ≤ cap → vals cap L = none
  | [] => Or.inl ⟨[], (fun _ h => by cases h), rfl, fun _ _ => rfl⟩
  | x :: r => by
    obtain ⟨v, ok, h0, hv⟩ := partV_caps x
    cases ok with
    | false => exact Or.inr (fun cap hc => by unfold vals; rw [hv cap hc]; rfl)
    | true =>
      rcases vals_caps r with ⟨vs, h1, h2, h3⟩ | h3
      · exact Or.inl ⟨v :: vs, (by intro z hz; rcases List.mem_cons.1 hz with rfl | hz; exact h0; exact h1 z hz), by rw [List.length_cons, List.length_cons, h2], fun cap hc => by unfold vals; rw [hv cap hc, h3 cap hc]; rfl⟩
      · exact Or.inr (fun cap hc => by unfold vals; rw [hv cap hc, h3 cap hc]; rfl)
theorem four_caps (c d : Int) (hc : 4294967296 ≤ c) (hd : 4294967296 ≤ d) (vs : List Int) : fourV (vs.map (mn · c)) = fourV (vs.map (mn · d)) := by
  have h1 : ∀ v T : Int, T ≤ 4294967296 → (mn v c < T ↔ v < T) := fun v T hT => by unfold mn; split <;> omega
  have h2 : ∀ v T : Int, T ≤ 4294967296 → (mn v d < T ↔ v < T) := fun v T hT => by unfold mn; split <;> omega
  have h3 : ∀ v : Int, mn v c ≤ 255 ↔ v ≤ 255 := fun v => by unfold mn; split <;> omega
  have h4 : ∀ v : Int, mn v d ≤ 255 ↔ v ≤ 255 := fun v => by unfold mn; split <;> omega
  have e1 : ∀ v T : Int, T ≤ 4294967296 → v < T → mn v c = v := fun v T hT h => by unfold mn; split <;> omega
  have e2 : ∀ v T : Int, T ≤ 4294967296 → v < T → mn v d = v := fun v T hT h => by unfold mn; split <;> omega
  match vs with
  | [] => rfl
  | [a] =>
    simp only [List.map_cons, List.map_nil, fourV, h1 a 4294967296 (by omega), h2 a 4294967296 (by omega)]
    split
    · rename_i h; rw [e1 a _ (Int.le_refl _) h, e2 a _ (Int.le_refl _) h]
    · rfl
  | [a, b] =>
    simp only [List.map_cons, List.map_nil, fourV, h3, h4, h1 b 16777216 (by omega), h2 b 16777216 (by omega)]
    split
    · rename_i h; rw [e1 a 256 (by omega) (by omega), e2 a 256 (by omega) (by omega), e1 b 16777216 (by omega) h.2, e2 b 16777216 (by omega) h.2]
    · rfl
  | [a, b, x] =>
    simp only [List.map_cons, List.map_nil, fourV, h3, h4, h1 x 65536 (by omega), h2 x 65536 (by omega)]
    split
    · rename_i h; rw [e1 a 256 (by omega) (by omega), e2 a 256 (by omega) (by omega), e1 b 256 (by omega) (by omega), e2 b 256 (by omega) (by omega), e1 x 65536 (by omega) h.2.2, e2 x 65536 (by omega) h.2.2]
    · rfl
  | [a, b, x, y] =>
    simp only [List.map_cons, List.map_nil, fourV, h3, h4, h1 y 256 (by omega), h2 y 256 (by omega)]
    split
    · rename_i h; rw [e1 a 256 (by omega) (by omega), e2 a 256 (by omega) (by omega), e1 b 256 (by omega) (by omega), e2 b 256 (by omega) (by omega), e1 x 256 (by omega) (by omega), e2 x 256 (by omega) (by omega), e1 y 256 (by omega) h.2.2.2, e2 y 256 (by omega) h.2.2.2]
    · rfl
  | a :: b :: x :: y :: z :: r => rfl
theorem P4_caps (l : List UInt8) : P4 8589934592 l = P4 1099511627776 l := by
  unfold P4
  rcases vals_caps (prts l) with ⟨vs, h1, h2, h3⟩ | h3
  · rw [h3 _ (by omega), h3 _ (by omega)]
    simp only [four_caps 8589934592 1099511627776 (by omega) (by omega) vs]
  · rw [h3 _ (by omega), h3 _ (by omega)]
def decL (n : Nat) : List UInt8 := if h : n < 10 then [UInt8.ofNat (48 + n)] else decL (n / 10) ++ [UInt8.ofNat (48 + n % 10)]
termination_by n
decreasing_by omega
theorem decL_small {n : Nat} (h : n < 10) : decL n = [UInt8.ofNat (48 + n)] := by unfold decL; rw [dif_pos h]
theorem decL_big {n : Nat} (h : ¬ n < 10) : decL n = decL (n / 10) ++ [UInt8.ofNat (48 + n % 10)] := by rw [decL, dif_neg h]
theorem decL_len : ∀ (b n : Nat), n < 10 ^ (b + 1) → (decL n).length ≤ b + 1
  | 0, n, h => by rw [decL_small (by simpa using h)]; simp
  | b + 1, n, h => by
    by_cases h10 : n < 10
    · rw [decL_small h10]; simp
    · rw [decL_big h10, List.length_append, List.length_singleton]
      have := decL_len b (n / 10) (by rw [Nat.pow_succ] at h; omega)
      omega
theorem decL_digits : ∀ (b n : Nat), n < b → ∀ c ∈ decL n, 48 ≤ c.toNat ∧ c.toNat ≤ 57
  | 0, n, h => by omega
  | b + 1, n, h => by
    intro c hc
    by_cases h10 : n < 10
    · rw [decL_small h10] at hc
      rw [List.mem_singleton.1 hc, UInt8.toNat_ofNat_of_lt' (by show 48 + n < 256; omega)]; omega
    · rw [decL_big h10] at hc
      rcases List.mem_append.1 hc with m | m
      · exact decL_digits b (n / 10) (by omega) c m
      · rw [List.mem_singleton.1 m, UInt8.toNat_ofNat_of_lt' (by show 48 + n % 10 < 256; omega)]; omega
theorem decL_ne (n : Nat) : decL n ≠ [] := by
  by_cases h10 : n < 10
  · rw [decL_small h10]; simp
  · rw [decL_big h10]; simp
theorem num_one {x : Int} {n : Nat} (h : x = (n : Int)) (hn : n < 256) : strOfNums [(wrap64 x) % 256] = mk [UInt8.ofNat n] := by
  have : (wrap64 x) % 256 = (n : Int) := by rw [wrap_id (by omega) (by omega)]; omega
  rw [this]; rfl
theorem i64w (n : Int) (h₀ : 0 ≤ n) (h₁ : n < 2 ^ 63) : IntKind.i64.wrap n = n := by rw [IntKind.wrap_i64]; omega
theorem and63 (x : Int) (h0 : 0 ≤ x) (h1 : x < 9223372036854775808) : Go.bits .and .i64 x 63 = x % 64 := Go.bits_mask .i64 63 (by decide) i64w 6 (by decide) x h0 h1
theorem and31 (x : Int) (h0 : 0 ≤ x) (h1 : x < 9223372036854775808) : Go.bits .and .i64 x 31 = x % 32 := Go.bits_mask .i64 63 (by decide) i64w 5 (by decide) x h0 h1
theorem and15 (x : Int) (h0 : 0 ≤ x) (h1 : x < 9223372036854775808) : Go.bits .and .i64 x 15 = x % 16 := Go.bits_mask .i64 63 (by decide) i64w 4 (by decide) x h0 h1
theorem and7 (x : Int) (h0 : 0 ≤ x) (h1 : x < 9223372036854775808) : Go.bits .and .i64 x 7 = x % 8 := Go.bits_mask .i64 63 (by decide) i64w 3 (by decide) x h0 h1
theorem or128 (y : Int) (h0 : 0 ≤ y) (h1 : y < 64) : Go.bits .or .i64 128 y = 128 + y :=
  Go.bits_join .i64 63 (by decide) i64w 6 128 y (by decide) (by decide) (by decide) h0 h1 (by omega)
theorem or192 (y : Int) (h0 : 0 ≤ y) (h1 : y < 32) : Go.bits .or .i64 192 y = 192 + y :=
  Go.bits_join .i64 63 (by decide) i64w 5 192 y (by decide) (by decide) (by decide) h0 h1 (by omega)
theorem or224 (y : Int) (h0 : 0 ≤ y) (h1 : y < 16) : Go.bits .or .i64 224 y = 224 + y :=
  Go.bits_join .i64 63 (by decide) i64w 4 224 y (by decide) (by decide) (by decide) h0 h1 (by omega)
theorem or240 (y : Int) (h0 : 0 ≤ y) (h1 : y < 8) : Go.bits .or .i64 240 y = 240 + y :=
  Go.bits_join .i64 63 (by decide) i64w 3 240 y (by decide) (by decide) (by decide) h0 h1 (by omega)
theorem orsix (x y : Int) (hx : 0 ≤ x) (hx1 : x < 100000000000000000) (h0 : 0 ≤ y) (h1 : y < 64) : Go.bits .or .i64 (x * 64) y = x * 64 + y :=
  Go.bits_join .i64 63 (by decide) i64w 6 (x * 64) y (by omega) (by omega) (by omega) h0 h1 (by omega)
theorem wf_u16 {x : Int} (h : (Lit.int .u16 x).wf = true) : 0 ≤ x ∧ x < 65536 := by
  simp [Lit.wf, IntKind.min, IntKind.max, IntKind.signed, IntKind.bits] at h
  omega
theorem wf_u32 {x : Int} (h : (Lit.int .u32 x).wf = true) : 0 ≤ x ∧ x < 4294967296 := by
  simp [Lit.wf, IntKind.min, IntKind.max, IntKind.signed, IntKind.bits] at h
  omega
theorem u32w (n : Int) (h₀ : 0 ≤ n) (h₁ : n < 2 ^ 32) : IntKind.u32.wrap n = n := by show n % 4294967296 = n; omega
theorem and255u (x : Int) (h0 : 0 ≤ x) (h1 : x < 4294967296) : Go.bits .and .u32 x 255 = x % 256 := Go.bits_mask .u32 32 (by decide) u32w 8 (by decide) x h0 h1
theorem decD_eq : ∀ (b n : Nat), n < b → Lib.decDigits n = decL n
  | 0, n, h => by omega
  | b + 1, n, h => by
    rw [Lib.decDigits]
    by_cases h10 : n < 10
    · rw [dif_pos h10, decL_small h10]
    · rw [dif_neg h10, decL_big h10, decD_eq b (n / 10) (by omega)]
theorem Itoa_dec (n : Nat) (h : n ≤ 9223372036854775807) : strconv_Itoa.f (n : Int) = some (mk (decL n)) := by
  unfold strconv_Itoa.f Lib.itoa
  rw [if_pos (by omega), if_neg (by omega), Int.toNat_natCast, decD_eq (n + 1) n (by omega)]
  rfl
def q4 (n : Int) (i : Nat) : Nat := (n / [16777216, 65536, 256, 1].getD i 1 % 256).toNat
/-- Four bytes written. -/
def pr4 (n : Int) : List UInt8 := decL (q4 n 0) ++ 46 :: (decL (q4 n 1) ++ 46 :: (decL (q4 n 2) ++ 46 :: decL (q4 n 3)))
theorem q4_lt (n : Int) (i : Nat) : q4 n i < 256 := by
  unfold q4
  have h := Int.emod_lt_of_pos (n / [16777216, 65536, 256, 1].getD i 1) (show (0 : Int) < 256 by decide)
  have h2 := Int.emod_nonneg (n / [16777216, 65536, 256, 1].getD i 1) (show (256 : Int) ≠ 0 by decide)
  omega
theorem dec_len3 (n : Int) (i : Nat) : (decL (q4 n i)).length ≤ 3 := decL_len 2 _ (by have := q4_lt n i; omega)
theorem pr4_step (n : Int) (hn : 0 ≤ n ∧ n < 4294967296) (i : Nat) (hi : i < 4) (acc : List ByteArray) (ha : acc.length ≤ 4) {r : ByteArray} (h : Ev (fun k => ip_Print4.l0 k n (acc ++ [mk (decL (q4 n i))]) ((i + 1 : Nat) : Int)) r) : Ev (fun k => ip_Print4.l0 k n acc (i : Int)) r := by
  have hs : shr .u32 n (wrap64 (24 - (wrap64 (8 * (i : Int))))) = n / [16777216, 65536, 256, 1].getD i 1 := by
    match i, hi with
    | 0, _ => show _ = _; kernel_rfl
    | 1, _ => show _ = _; kernel_rfl
    | 2, _ => show _ = _; kernel_rfl
    | 3, _ => show _ = _; kernel_rfl
  have hr : 0 ≤ n / [16777216, 65536, 256, 1].getD i 1 ∧ n / [16777216, 65536, 256, 1].getD i 1 < 4294967296 := by
    match i, hi with
    | 0, _ => show 0 ≤ n / 16777216 ∧ n / 16777216 < 4294967296; omega
    | 1, _ => show 0 ≤ n / 65536 ∧ n / 65536 < 4294967296; omega
    | 2, _ => show 0 ≤ n / 256 ∧ n / 256 < 4294967296; omega
    | 3, _ => show 0 ≤ n / 1 ∧ n / 1 < 4294967296; omega
  have hq := q4_lt n i
  refine Ev.step (fun _ => ip_Print4.l0.eq_2 ..) (Ev.pos (by omega) (Ev.pos ?_ ?_))
  · match i, hi with
    | 0, _ => decide +kernel
    | 1, _ => decide +kernel
    | 2, _ => decide +kernel
    | 3, _ => decide +kernel
  · rw [hs, and255u _ hr.1 hr.2]
    have e : n / [16777216, 65536, 256, 1].getD i 1 % 256 = ((q4 n i : Nat) : Int) := by unfold q4; rw [Int.toNat_of_nonneg (by omega)]
    rw [e, wrap_id (by omega) (by omega)]
    refine Ev.bnd (Itoa_dec _ (by omega)) (Ev.pos (by omega) ?_)
    rw [wrap_id (x := (i : Int) + 1) (by omega) (by omega), cast_succ]
    exact h
theorem join_f (l : List (List UInt8)) (c : UInt8) (h : l.length ≤ 100) (hl : ([c].intercalate l).length ≤ 1000000) : strings_Join.f (l.map mk) (⟨#[c]⟩ : ByteArray) = some (mk ([c].intercalate l)) := by
  have e : (l.map mk).map (·.data.toList) = l := by rw [List.map_map]; exact (List.map_congr_left (fun x _ => rfl)).trans (List.map_id l)
  unfold strings_Join.f Lib.join
  rw [e, if_pos ⟨by rw [List.length_map]; omega, by show ([c].intercalate l).length ≤ _; omega⟩]
  rfl
theorem Print4_prog (n : Int) (hn : 0 ≤ n ∧ n < 4294967296) : Ev (fun k => ip_Print4.f k n) (mk (pr4 n)) := by
  have e0 : ∀ r : ByteArray, Ev (fun k => ip_Print4.l0 k n [] ((0 : Nat) : Int)) r → Ev (fun k => ip_Print4.f k n) r := fun r z => z
  apply e0
  refine pr4_step n hn 0 (by decide) _ (by simp) (pr4_step n hn 1 (by decide) _ (by simp) (pr4_step n hn 2 (by decide) _ (by simp) (pr4_step n hn 3 (by decide) _ (by simp) ?_)))
  refine Ev.step (fun _ => ip_Print4.l0.eq_2 ..) (Ev.neg (by decide) ?_)
  have e : ([46] : List UInt8).intercalate [decL (q4 n 0), decL (q4 n 1), decL (q4 n 2), decL (q4 n 3)] = pr4 n := by
    unfold pr4
    simp [List.intercalate, List.intersperse]
  have hl : (pr4 n).length ≤ 1000000 := by
    unfold pr4
    have h0 := dec_len3 n 0; have h1 := dec_len3 n 1; have h2 := dec_len3 n 2; have h3 := dec_len3 n 3
    simp only [List.length_append, List.length_cons]; omega
  refine Ev.bnd (a := mk (pr4 n)) ?_ (Ev.now _)
  have z := join_f [decL (q4 n 0), decL (q4 n 1), decL (q4 n 2), decL (q4 n 3)] 46 (by simp) (by rw [e]; exact hl)
  rw [e] at z
  exact z
/-- A number's digits of a base. -/
def bL (b n : Nat) : List UInt8 := if h : n < b ∨ b < 2 then [Own.hexD n] else bL b (n / b) ++ [Own.hexD (n % b)]
termination_by n
decreasing_by exact Nat.div_lt_self (by omega) (by omega)
theorem bL_small {b n : Nat} (h : n < b) : bL b n = [Own.hexD n] := by rw [bL, dif_pos (Or.inl h)]
theorem bL_big {b n : Nat} (h : ¬ n < b) (hb : 2 ≤ b) : bL b n = bL b (n / b) ++ [Own.hexD (n % b)] := by rw [bL, dif_neg (by omega)]
theorem hexD_fin {p : Nat → Prop} (h : ∀ j : Fin 16, p j.val) (n : Nat) (hn : n < 16) : p n := h ⟨n, hn⟩
theorem hexD_ten (n : Nat) (h : n < 10) : Own.hexD n = UInt8.ofNat (48 + n) := by
  have z : ∀ j : Fin 10, Own.hexD j.val = UInt8.ofNat (48 + j.val) := by decide +kernel
  exact z ⟨n, h⟩
theorem dv_hexD (n : Nat) (h : n < 16) : dv (Own.hexD n) = (n : Int) := hexD_fin (p := fun n => dv (Own.hexD n) = (n : Int)) (by decide +kernel) n h
theorem hexD_48 (n : Nat) (h : n < 16) : Own.hexD n = 48 ↔ n = 0 := hexD_fin (p := fun n => Own.hexD n = 48 ↔ n = 0) (by decide +kernel) n h
theorem bL_dec : ∀ (m n : Nat), n < m → bL 10 n = decL n
  | 0, n, h => by omega
  | m + 1, n, h => by
    by_cases h10 : n < 10
    · rw [bL_small h10, decL_small h10, hexD_ten n h10]
    · rw [bL_big h10 (by omega), decL_big h10, bL_dec m (n / 10) (by omega), hexD_ten _ (by omega)]
theorem dec_bL (n : Nat) : decL n = bL 10 n := (bL_dec (n + 1) n (by omega)).symm
theorem bL_all (b : Nat) (hb : b = 8 ∨ b = 10 ∨ b = 16) : ∀ (m n : Nat), n < m → (bL b n).all (isD (b : Int)) = true
  | 0, n, h => by omega
  | m + 1, n, h => by
    have hd : ∀ i : Nat, i < b → isD (b : Int) (Own.hexD i) = true := fun i hi => isD_iff.2 (by rw [dv_hexD i (by omega)]; omega)
    by_cases hn : n < b
    · rw [bL_small hn, List.all_cons, hd n hn]; rfl
    · have hdiv : n / b < m := Nat.lt_of_lt_of_le (Nat.div_lt_self (by omega) (by omega)) (by omega)
      rw [bL_big hn (by omega), List.all_append, bL_all b hb m (n / b) hdiv, List.all_cons, hd (n % b) (Nat.mod_lt _ (by omega))]; rfl
theorem valL_append (b : Int) : ∀ (l r : List UInt8) (v : Int), valL b (l ++ r) v = valL b r (valL b l v)
  | [], r, v => rfl
  | c :: l, r, v => valL_append b l r (v * b + dv c)
theorem bL_val (b : Nat) (hb : b = 8 ∨ b = 10 ∨ b = 16) : ∀ (m n : Nat), n < m → valL (b : Int) (bL b n) 0 = (n : Int)
  | 0, n, h => by omega
  | m + 1, n, h => by
    by_cases hn : n < b
    · rw [bL_small hn]
      show (0 : Int) * (b : Int) + dv (Own.hexD n) = _
      rw [dv_hexD n (by omega)]; omega
    · have hdiv : n / b < m := Nat.lt_of_lt_of_le (Nat.div_lt_self (by omega) (by omega)) (by omega)
      rw [bL_big hn (by omega), valL_append, bL_val b hb m (n / b) hdiv]
      have hm : n % b < b := Nat.mod_lt _ (by omega)
      show ((n / b : Nat) : Int) * (b : Int) + dv (Own.hexD (n % b)) = _
      rw [dv_hexD _ (by omega)]
      rcases hb with rfl | rfl | rfl <;> omega
theorem bL_ne (b n : Nat) : bL b n ≠ [] := by
  rw [bL]
  split <;> simp
theorem bL_head (b : Nat) (hb : b = 8 ∨ b = 10 ∨ b = 16) : ∀ (m n : Nat), n < m → (bL b n).head? = some 48 → n = 0
  | 0, n, h, _ => by omega
  | m + 1, n, h, q => by
    by_cases hn : n < b
    · rw [bL_small hn] at q
      exact (hexD_48 n (by omega)).1 (Option.some.inj q)
    · have hdiv : n / b < m := Nat.lt_of_lt_of_le (Nat.div_lt_self (by omega) (by omega)) (by omega)
      rw [bL_big hn (by omega)] at q
      have q' : (bL b (n / b)).head? = some 48 := by
        cases hq : bL b (n / b) with
        | nil => exact absurd hq (bL_ne _ _)
        | cons c t => rw [hq] at q; exact q
      have z := bL_head b hb m (n / b) hdiv q'
      rcases hb with rfl | rfl | rfl <;> omega
theorem bL_len (b : Nat) (hb : 2 ≤ b) : ∀ (m n : Nat), n < 2 ^ (m + 1) → (bL b n).length ≤ m + 1
  | 0, n, h => by
    rw [bL_small (by omega)]; simp
  | m + 1, n, h => by
    by_cases hn : n < b
    · rw [bL_small hn]; simp
    · have h2 : n / b ≤ n / 2 := Nat.div_le_div_left hb (by decide)
      rw [bL_big hn hb, List.length_append, List.length_singleton]
      have := bL_len b hb m (n / b) (by rw [Nat.pow_succ] at h; omega)
      omega
theorem no_dot {b : Int} {l : List UInt8} (h : l.all (isD b) = true) : 46 ∉ l := fun q => by
  rw [List.all_eq_true] at h
  have := (isD_iff.1 (h 46 q)).1
  exact absurd this (by decide)
theorem no_colon {b : Int} {l : List UInt8} (h : l.all (isD b) = true) : 58 ∉ l := fun q => by
  rw [List.all_eq_true] at h
  have := (isD_iff.1 (h 58 q)).1
  exact absurd this (by decide)
theorem hexP_no {b : Int} {l : List UInt8} (h : l.all (isD b) = true) : hexP l = false := by
  match l, h with
  | [], _ => rfl
  | [a], _ => rfl
  | a :: c :: t, h =>
    rw [List.all_eq_true] at h
    have hc := (isD_iff.1 (h c (by simp))).1
    show (a == 48 && (c == 120 || c == 88)) = false
    have h1 : c ≠ 120 := fun q => by subst q; exact absurd hc (by decide)
    have h2 : c ≠ 88 := fun q => by subst q; exact absurd hc (by decide)
    rw [beq_eq_false_iff_ne.2 h1, beq_eq_false_iff_ne.2 h2]
    simp
theorem bLn (b : Nat) (hb : b = 8 ∨ b = 10 ∨ b = 16) (cap : Int) (hc : 0 ≤ cap) (n : Nat) : nm cap (b : Int) (bL b n) = (mn (n : Int) cap, true) := by
  rw [nm_val (by omega) hc (bL_all b hb (n + 1) n (by omega)), bL_val b hb (n + 1) n (by omega)]
theorem partV_dec (cap : Int) (hc : 0 ≤ cap) (n : Nat) : partV cap (bL 10 n) = (mn (n : Int) cap, true) := by
  have hall := bL_all 10 (by omega) (n + 1) n (by omega)
  unfold partV
  rw [if_neg (bL_ne _ _), if_neg (by rw [hexP_no hall]; decide), if_neg (fun q => by
    have z := bL_head 10 (by omega) (n + 1) n (by omega) q.1
    subst z
    rw [bL_small (by decide)] at q
    exact absurd q.2 (by decide))]
  exact bLn 10 (by omega) cap hc n
theorem partV_hex (cap : Int) (hc : 0 ≤ cap) (n : Nat) : partV cap (48 :: 120 :: bL 16 n) = (mn (n : Int) cap, true) := by
  unfold partV
  rw [if_neg (by simp), if_pos (show hexP (48 :: 120 :: bL 16 n) = true from rfl)]
  exact bLn 16 (by omega) cap hc n
theorem partV_oct (cap : Int) (hc : 0 ≤ cap) (n : Nat) : partV cap (48 :: bL 8 n) = (mn (n : Int) cap, true) := by
  have hall := bL_all 8 (by omega) (n + 1) n (by omega)
  have hall2 : (48 :: bL 8 n).all (isD 8) = true := by rw [List.all_cons, show ((8 : Nat) : Int) = 8 from rfl] at *; rw [hall]; rfl
  unfold partV
  rw [if_neg (by simp), if_neg (by rw [hexP_no hall2]; decide), if_pos ⟨rfl, by rw [List.length_cons]; have := List.length_pos_iff.2 (bL_ne 8 n); omega⟩]
  exact bLn 8 (by omega) cap hc n
theorem prts_one {l : List UInt8} (h : 46 ∉ l) : prts l = [l] := by
  unfold prts
  rw [spl_whole 46 l h, if_neg (by simp)]
theorem P4_one {cap : Int} {l : List UInt8} (h46 : 46 ∉ l) (hl : l.length ≤ 4000) {v : Int} (hv : partV cap l = (v, true)) : P4 cap l = fourV [v] := by
  unfold P4
  rw [if_neg (by omega), prts_one h46, if_neg (by simp)]
  simp [vals, hv]
theorem mnv {v : Int} (h : v < 4294967296) : mn v 8589934592 = v := mn_id (by omega)
theorem prts4 {a b c d : List UInt8} (ha : 46 ∉ a) (hb : 46 ∉ b) (hc : 46 ∉ c) (hd : 46 ∉ d) (hne : d ≠ []) : prts (a ++ 46 :: (b ++ 46 :: (c ++ 46 :: d))) = [a, b, c, d] := by
  unfold prts
  rw [spl_cut 46 _ a ha, spl_cut 46 _ b hb, spl_cut 46 _ c hc, spl_whole 46 d hd, if_neg (fun q => hne (by simpa using q.2))]
theorem P4_pr4 (n : Int) (hn : 0 ≤ n ∧ n < 4294967296) (e : List UInt8) (he : e = [] ∨ e = [46]) : P4 8589934592 (pr4 n ++ e) = (n, 0) := by
  have hl : (pr4 n ++ e).length ≤ 4000 := by
    unfold pr4
    have h0 := dec_len3 n 0; have h1 := dec_len3 n 1; have h2 := dec_len3 n 2; have h3 := dec_len3 n 3
    have : e.length ≤ 1 := by rcases he with rfl | rfl <;> simp
    simp only [List.length_append, List.length_cons]; omega
  have D : ∀ i, 46 ∉ decL (q4 n i) := fun i => by rw [dec_bL]; exact no_dot (bL_all 10 (by omega) _ _ (Nat.lt_succ_self _))
  have hp : prts (pr4 n ++ e) = [decL (q4 n 0), decL (q4 n 1), decL (q4 n 2), decL (q4 n 3)] := by
    rcases he with rfl | rfl
    · rw [List.append_nil]
      exact prts4 (D 0) (D 1) (D 2) (D 3) (decL_ne _)
    · have ex : pr4 n ++ [46] = decL (q4 n 0) ++ 46 :: (decL (q4 n 1) ++ 46 :: (decL (q4 n 2) ++ 46 :: (decL (q4 n 3) ++ 46 :: []))) := by unfold pr4; simp
      unfold prts
      rw [ex, spl_cut 46 _ _ (D 0), spl_cut 46 _ _ (D 1), spl_cut 46 _ _ (D 2), spl_cut 46 _ _ (D 3)]
      rfl
  have hv : ∀ i, partV 8589934592 (decL (q4 n i)) = (((q4 n i : Nat) : Int), true) := fun i => by
    have := q4_lt n i
    rw [dec_bL, partV_dec _ (by omega), mn_id (by omega)]
  unfold P4
  rw [if_neg (by omega), hp, if_neg (by simp)]
  have hvals : vals 8589934592 [decL (q4 n 0), decL (q4 n 1), decL (q4 n 2), decL (q4 n 3)] = some [((q4 n 0 : Nat) : Int), ((q4 n 1 : Nat) : Int), ((q4 n 2 : Nat) : Int), ((q4 n 3 : Nat) : Int)] := by simp [vals, hv]
  rw [hvals]
  have q0 := q4_lt n 0; have q1 := q4_lt n 1; have q2 := q4_lt n 2; have q3 := q4_lt n 3
  have e0 : ((q4 n 0 : Nat) : Int) = n / 16777216 % 256 := by show (((n / 16777216 % 256).toNat : Nat) : Int) = _; omega
  have e1 : ((q4 n 1 : Nat) : Int) = n / 65536 % 256 := by show (((n / 65536 % 256).toNat : Nat) : Int) = _; omega
  have e2 : ((q4 n 2 : Nat) : Int) = n / 256 % 256 := by show (((n / 256 % 256).toNat : Nat) : Int) = _; omega
  have e3 : ((q4 n 3 : Nat) : Int) = n % 256 := by show (((n / 1 % 256).toNat : Nat) : Int) = _; omega
  show (if _ then _ else _) = _
  rw [if_pos ⟨by omega, by omega, by omega, by omega⟩, e0, e1, e2, e3]
  congr 1
  omega
theorem or16 (x y : Int) (hx : 0 ≤ x) (hx1 : x < 100000000000000000) (h0 : 0 ≤ y) (h1 : y < 16) : Go.bits .or .i64 (x * 16) y = x * 16 + y :=
  Go.bits_join .i64 63 (by decide) i64w 4 (x * 16) y (by omega) (by omega) (by omega) h0 h1 (by omega)
theorem or256 (x y : Int) (hx : 0 ≤ x) (hx1 : x < 10000000000000000) (h0 : 0 ≤ y) (h1 : y < 256) : Go.bits .or .i64 (x * 256) y = x * 256 + y :=
  Go.bits_join .i64 63 (by decide) i64w 8 (x * 256) y (by omega) (by omega) (by omega) h0 h1 (by omega)
/-- A piece of up to four digits of 16. -/
def pieceV (x : List UInt8) : Option Int := if x ≠ [] ∧ x.length ≤ 4 ∧ x.all (isD 16) = true then some (valL 16 x 0) else none
/-- A byte in digits of 10. -/
def byteV (x : List UInt8) : Option Int := if x ≠ [] ∧ x.length ≤ 3 ∧ x.all (isD 10) = true ∧ ¬ (1 < x.length ∧ x.head? = some 48) ∧ valL 10 x 0 ≤ 255 then some (valL 10 x 0) else none
def bytesV : List (List UInt8) → Option (List Int)
  | [] => some []
  | x :: r => (byteV x).bind fun v => (bytesV r).map (v :: ·)
def dotL : List Int → Option (List Int)
  | [a, b, c, d] => some [a * 256 + b, c * 256 + d]
  | _ => none
/-- Four bytes with points between, as two pieces. -/
def dotV (x : List UInt8) : Option (List Int) := if (spl 46 x).length = 4 then (bytesV (spl 46 x)).bind dotL else none
def piecesV (last : Bool) : List (List UInt8) → Option (List Int)
  | [] => some []
  | x :: r => if last = true ∧ r = [] ∧ 46 ∈ x then dotV x else (pieceV x).bind fun v => (piecesV last r).map (v :: ·)
/-- Pieces with colons between. -/
def PL (last : Bool) (l : List UInt8) : Option (List Int) := if l = [] then some [] else piecesV last (spl 58 l)
theorem val16_lt {x : List UInt8} (h : x.all (isD 16) = true) (hl : x.length ≤ 4) : 0 ≤ valL 16 x 0 ∧ valL 16 x 0 < 65536 := by
  rw [List.all_eq_true] at h
  have hd : ∀ c ∈ x, 0 ≤ dv c ∧ dv c < 16 := fun c hc => isD_iff.1 (h c hc)
  match x, hl with
  | [], _ => exact ⟨Int.le_refl _, by decide⟩
  | [a], _ =>
    have := hd a (by simp)
    simp only [valL]; omega
  | [a, b], _ =>
    have := hd a (by simp); have := hd b (by simp)
    simp only [valL]; omega
  | [a, b, c], _ =>
    have := hd a (by simp); have := hd b (by simp); have := hd c (by simp)
    simp only [valL]; omega
  | [a, b, c, d], _ =>
    have := hd a (by simp); have := hd b (by simp); have := hd c (by simp); have := hd d (by simp)
    simp only [valL]; omega
theorem pieceV_rng {x : List UInt8} {v : Int} (h : pieceV x = some v) : 0 ≤ v ∧ v < 65536 := by
  unfold pieceV at h
  split at h
  · rename_i q
    obtain rfl := Option.some.inj h
    exact val16_lt q.2.2 q.2.1
  · cases h
theorem byteV_rng {x : List UInt8} {v : Int} (h : byteV x = some v) : 0 ≤ v ∧ v ≤ 255 := by
  unfold byteV at h
  split at h
  · rename_i q
    obtain rfl := Option.some.inj h
    exact ⟨valL_ge 10 (by omega) x 0 q.2.2.1 (by omega), q.2.2.2.2⟩
  · cases h
theorem bytesV_rng : ∀ {L : List (List UInt8)} {w : List Int}, bytesV L = some w → w.length = L.length ∧ ∀ v ∈ w, 0 ≤ v ∧ v ≤ 255
  | [], w, h => by
    obtain rfl := Option.some.inj h
    exact ⟨rfl, fun _ h => by cases h⟩
  | x :: r, w, h => by
    unfold bytesV at h
    obtain ⟨v, hv, h⟩ := Option.bind_eq_some_iff.1 h
    obtain ⟨u, hu, rfl⟩ := Option.map_eq_some_iff.1 h
    obtain ⟨h1, h2⟩ := bytesV_rng hu
    refine ⟨by rw [List.length_cons, List.length_cons, h1], fun z hz => ?_⟩
    rcases List.mem_cons.1 hz with rfl | hz
    · exact byteV_rng hv
    · exact h2 z hz
theorem dotV_rng {x : List UInt8} {w : List Int} (h : dotV x = some w) : w.length = 2 ∧ ∀ v ∈ w, 0 ≤ v ∧ v < 65536 := by
  unfold dotV at h
  split at h
  · obtain ⟨u, hu, h⟩ := Option.bind_eq_some_iff.1 h
    have hr := (bytesV_rng hu).2
    match u, h with
    | [a, b, c, d], h =>
      obtain rfl := Option.some.inj h
      have := hr a (by simp); have := hr b (by simp); have := hr c (by simp); have := hr d (by simp)
      refine ⟨rfl, fun v hv => ?_⟩
      rcases List.mem_cons.1 hv with rfl | hv
      · omega
      · rw [List.mem_singleton.1 hv]; omega
  · cases h
theorem piecesV_rng (last : Bool) : ∀ {L : List (List UInt8)} {w : List Int}, piecesV last L = some w → w.length ≤ L.length + 1 ∧ ∀ v ∈ w, 0 ≤ v ∧ v < 65536
  | [], w, h => by
    obtain rfl := Option.some.inj h
    exact ⟨Nat.zero_le _, fun _ h => by cases h⟩
  | x :: r, w, h => by
    unfold piecesV at h
    split at h
    · obtain ⟨h1, h2⟩ := dotV_rng h
      exact ⟨by rw [h1, List.length_cons]; omega, h2⟩
    · obtain ⟨v, hv, h⟩ := Option.bind_eq_some_iff.1 h
      obtain ⟨u, hu, rfl⟩ := Option.map_eq_some_iff.1 h
      obtain ⟨h1, h2⟩ := piecesV_rng last hu
      refine ⟨by rw [List.length_cons, List.length_cons]; omega, fun z hz => ?_⟩
      rcases List.mem_cons.1 hz with rfl | hz
      · exact pieceV_rng hv
      · exact h2 z hz
theorem PL_rng {last : Bool} {l : List UInt8} {w : List Int} (h : PL last l = some w) : w.length ≤ l.length + 2 ∧ ∀ v ∈ w, 0 ≤ v ∧ v < 65536 := by
  unfold PL at h
  split at h
  · obtain rfl := Option.some.inj h
    exact ⟨Nat.zero_le _, fun _ h => by cases h⟩
  · have := spl_len 58 l
    obtain ⟨h1, h2⟩ := piecesV_rng last h
    exact ⟨by omega, h2⟩
theorem strings_Cut_range : ∀ (s : List UInt8) (c : UInt8), -1 ≤ Lib.indexByte s c
  | [], c => by unfold Lib.indexByte; simp
  | x :: t, c => by
    have ih := strings_Cut_range t c
    unfold Lib.indexByte
    split
    · omega
    · split
      · omega
      · omega
theorem idx_mem (c : UInt8) : ∀ l : List UInt8, 0 ≤ Lib.indexByte l c ↔ c ∈ l
  | [] => by simp [Lib.indexByte]
  | b :: t => by
    have ih := idx_mem c t
    unfold Lib.indexByte
    split
    · rename_i h
      have e : b = c := by simpa using h
      subst e
      simp
    · rename_i h
      have hne : ¬ b = c := by simpa using h
      rw [List.mem_cons]
      split
      · rename_i h2
        have e : Lib.indexByte t c = -1 := by simpa using h2
        rw [e] at ih
        constructor
        · intro q; omega
        · rintro (q | q)
          · exact absurd q.symm hne
          · have := ih.2 q; omega
      · rename_i h2
        have hr := strings_Cut_range t c
        constructor
        · intro q
          right; apply ih.1
          have : Lib.indexByte t c ≠ -1 := by simpa using h2
          omega
        · rintro (q | q)
          · exact absurd q.symm hne
          · have := ih.2 q; omega
theorem spl_two (c : UInt8) : ∀ l : List UInt8, 1 < (spl c l).length ↔ c ∈ l
  | [] => by simp [spl]
  | b :: t => by
    have ih := spl_two c t
    have hne : 0 < (spl c t).length := List.length_pos_iff.2 (spl_ne c t)
    unfold spl
    split
    · rename_i h
      subst h
      simp only [List.length_cons, List.mem_cons, true_or, iff_true]
      omega
    · rename_i h
      rw [List.length_cons, List.length_tail, List.mem_cons]
      constructor
      · intro q; right; apply ih.1; omega
      · rintro (q | q)
        · exact absurd q.symm h
        · have := ih.2 q; omega
theorem val10_lt {x : List UInt8} (h : x.all (isD 10) = true) (hl : x.length ≤ 3) : 0 ≤ valL 10 x 0 ∧ valL 10 x 0 < 1000 := by
  rw [List.all_eq_true] at h
  have hd : ∀ c ∈ x, 0 ≤ dv c ∧ dv c < 10 := fun c hc => isD_iff.1 (h c hc)
  match x, hl with
  | [], _ => exact ⟨Int.le_refl _, by decide⟩
  | [a], _ =>
    have := hd a (by simp)
    simp only [valL]; omega
  | [a, b], _ =>
    have := hd a (by simp); have := hd b (by simp)
    simp only [valL]; omega
  | [a, b, c], _ =>
    have := hd a (by simp); have := hd b (by simp); have := hd c (by simp)
    simp only [valL]; omega
theorem four_step (L : List (List UInt8)) (hL : L.length = 4) (i : Nat) (x : List UInt8) (hx : L[i]? = some x) (hsx : x.length ≤ 1000000000) (n : Int) (h0 : 0 ≤ n) (h1 : n < 4294967296) {r : List Int × Bool}
    (h : ∀ v, byteV x = some v → Ev (fun k => ip_four.l0 k (n * 256 + v) (L.map mk) ((L.map mk).length : Int) ((i + 1 : Nat) : Int)) r) (h2 : byteV x = none → r = ([], false)) : Ev (fun k => ip_four.l0 k n (L.map mk) ((L.map mk).length : Int) (i : Int)) r := by
  have hi := (List.getElem?_eq_some_iff.1 hx).1
  have hg : (L.map mk)[i]? = some (mk x) := by rw [List.getElem?_map, hx]; rfl
  have hz : (mk x).size = x.length := by rw [size_B, B_mk]
  refine Ev.step (fun _ => ip_four.l0.eq_2 ..) (Ev.pos (by rw [List.length_map]; omega) (Ev.pos (by omega) (Ev.pos (by rw [List.length_map]; omega) ?_)))
  rw [rdOf_of hg]
  refine Ev.bind (number_prog 10 (by omega) (mk x) (by omega)) ?_
  rw [B_mk]
  have hno : ∀ q : byteV x = none, Ev (fun _ : Nat => some (([] : List Int), false)) r := fun q => by rw [h2 q]; exact Ev.now _
  by_cases hd : x.all (isD 10) = true
  · rw [nm_val (by omega) (by omega) hd]
    refine Ev.pos rfl ?_
    by_cases hn : x = []
    · exact Ev.pos (toList_nil.2 hn) (hno (by unfold byteV; rw [if_neg (fun q => q.1 hn)]))
    · refine Ev.neg (fun q => hn (toList_nil.1 q)) ?_
      by_cases h3 : 3 < x.length
      · exact Ev.pos (by omega) (hno (by unfold byteV; rw [if_neg (fun q => by omega)]))
      · have hv := val10_lt hd (by omega)
        refine Ev.neg (by omega) ?_
        rw [mn_id (show valL 10 x 0 ≤ 8589934592 by omega)]
        have hcont : ¬ (1 < x.length ∧ x.head? = some 48) → Ev (fun k => if valL 10 x 0 > 255 then some (([] : List Int), false) else ip_four.l0 k (Go.bits .or .i64 (wrap64 (n * 256)) (valL 10 x 0)) (L.map mk) ((L.map mk).length : Int) (wrap64 ((i : Int) + 1))) r := fun h48 => by
          by_cases h255 : valL 10 x 0 ≤ 255
          · refine Ev.neg (by omega) ?_
            rw [wrap_id (x := n * 256) (by omega) (by omega), or256 n _ h0 (by omega) hv.1 (by omega), wrap_id (x := (i : Int) + 1) (by omega) (by omega), cast_succ]
            exact h _ (by unfold byteV; rw [if_pos ⟨hn, by omega, hd, h48, h255⟩])
          · exact Ev.pos (by omega) (hno (by unfold byteV; rw [if_neg (fun q => h255 q.2.2.2.2)]))
        by_cases hl : 1 < x.length
        · refine Ev.pos (by omega) (Ev.pos (by omega) ?_)
          match x, hn with
          | a :: t, _ =>
            have hb0 : bt (mk (a :: t)) 0 = (a.toNat : Int) := bt_of (s := mk (a :: t)) (i := 0) rfl
            by_cases ha : a = 48
            · subst ha
              exact Ev.pos (by rw [hb0]; rfl) (hno (by unfold byteV; rw [if_neg (fun q => q.2.2.2.1 ⟨hl, rfl⟩)]))
            · exact Ev.neg (fun q => ha ((u8_eq a 48 (by omega)).1 (by rw [← hb0]; exact q))) (hcont (fun q => ha (by simpa using q.2)))
        · exact Ev.neg (by omega) (hcont (fun q => hl q.1))
  · rw [nm_no hd]
    exact Ev.neg (by decide) (hno (by unfold byteV; rw [if_neg (fun q => hd q.2.2.1)]))
theorem u16_w (x : Int) : IntKind.u16.wrap x = x % 65536 := rfl
theorem four_prog (x : List UInt8) (hx : x.length ≤ 1000000000) : Ev (fun k => ip_four.f k (mk x)) (match dotV x with | some v => (v, true) | none => ([], false)) := by
  have hz : (mk x).size = x.length := by rw [size_B, B_mk]
  refine Ev.bnd (Split_ok (mk x) 46 (by omega)) ?_
  rw [B_mk]
  unfold dotV
  by_cases h4 : (spl 46 x).length = 4
  · rw [if_pos h4]
    have hm := fun y (hy : y ∈ spl 46 x) => spl_mem 46 x y hy
    refine Ev.pos (by rw [List.length_map]; omega) ?_
    match hL : spl 46 x, h4 with
    | [a, b, c, d], h4 =>
      rw [hL] at hm
      have e0 : ∀ r : List Int × Bool, Ev (fun k => ip_four.l0 k 0 ([a, b, c, d].map mk) (([a, b, c, d].map mk).length : Int) ((0 : Nat) : Int)) r → Ev (fun k => ip_four.l0 k 0 ([a, b, c, d].map mk) (([a, b, c, d].map mk).length : Int) 0) r := fun r z => z
      apply e0
      refine four_step [a, b, c, d] rfl 0 a rfl (Nat.le_trans (hm a (by simp)) hx) 0 (by omega) (by omega) (fun va ha => ?_) (fun ha => by simp only [bytesV, ha]; rfl)
      have hra := byteV_rng ha
      refine four_step [a, b, c, d] rfl 1 b rfl (Nat.le_trans (hm b (by simp)) hx) _ (by omega) (by omega) (fun vb hb => ?_) (fun hb => by simp only [bytesV, ha, hb]; rfl)
      have hrb := byteV_rng hb
      refine four_step [a, b, c, d] rfl 2 c rfl (Nat.le_trans (hm c (by simp)) hx) _ (by omega) (by omega) (fun vc hc => ?_) (fun hc => by simp only [bytesV, ha, hb, hc]; rfl)
      have hrc := byteV_rng hc
      refine four_step [a, b, c, d] rfl 3 d rfl (Nat.le_trans (hm d (by simp)) hx) _ (by omega) (by omega) (fun vd hd => ?_) (fun hd => by simp only [bytesV, ha, hb, hc, hd]; rfl)
      have hrd := byteV_rng hd
      refine Ev.step (fun _ => ip_four.l0.eq_2 ..) (Ev.neg (by simp) (Ev.tell ?_))
      have e : (([a, b, c, d] : List (List UInt8)).length) = 4 := rfl
      simp only [bytesV, ha, hb, hc, hd]
      show ([IntKind.u16.wrap _, IntKind.u16.wrap _], true) = ([va * 256 + vb, vc * 256 + vd], true)
      rw [u16_w, u16_w]
      congr 3
      · omega
      · congr 1; omega
  · rw [if_neg h4]
    exact Ev.neg (by rw [List.length_map]; omega) (Ev.now _)
theorem list_loop (last : Bool) (L : List (List UInt8)) (hL : L.length ≤ 1000000001) (hs : ∀ x ∈ L, x.length ≤ 1000000000) : ∀ (rest : List (List UInt8)) (i : Nat) (acc : List Int), L.drop i = rest → i ≤ L.length → acc.length ≤ i →
    ∃ e : List Int, e.length ≤ L.length ∧ Ev (fun k => ip_list.l0 k last acc (L.map mk) (L.map mk) ((L.map mk).length : Int) (i : Int)) (match piecesV last rest with | some w => (acc ++ w, true) | none => (e, false))
  | [], i, acc, h, hi, ha => by
    have := drop_nil h
    refine ⟨[], Nat.zero_le _, Ev.step (fun _ => ip_list.l0.eq_2 ..) (Ev.neg (by rw [List.length_map]; omega) (Ev.tell ?_))⟩
    simp [piecesV]
  | x :: r, i, acc, h, hi, ha => by
    obtain ⟨e1, e2, e3⟩ := drop_cons h
    have hxm : x ∈ L := List.mem_of_getElem? e2
    have hsx := hs x hxm
    have hz : (mk x).size = x.length := by rw [size_B, B_mk]
    have hg : (L.map mk)[i]? = some (mk x) := by rw [List.getElem?_map, e2]; rfl
    have hlast : ((i : Int) = wrap64 (((L.map mk).length : Int) - 1)) ↔ r = [] := by
      rw [List.length_map, wrap_id (by omega) (by omega)]
      have hlen : L.length - (i + 1) = r.length := by rw [← e3, List.length_drop]
      constructor
      · intro q; exact List.eq_nil_of_length_eq_zero (by omega)
      · intro q; subst q; rw [List.length_nil] at hlen; omega
    have hhex : ¬ (last = true ∧ r = [] ∧ 46 ∈ x) → ∃ e : List Int, e.length ≤ L.length ∧ Ev (fun k => ip_list.j1 k last acc (L.map mk) (mk x) (L.map mk) ((L.map mk).length : Int) (i : Int) false) (match piecesV last (x :: r) with | some w => (acc ++ w, true) | none => (e, false)) := fun hq => by
      unfold piecesV
      rw [if_neg hq]
      have hstep : ∀ {w : List Int × Bool}, Ev (fun k => (ip_number.f k (mk x) 16).bind fun bt132 => (if bt132.2 = true then (if (mk x).toList = ([] : List UInt8) then (some (([] : List Int), false)) else (if ((mk x).size : Int) > 4 then (some (([] : List Int), false)) else (if acc.length < 70368744177664 then (ip_list.l0 k last (acc ++ [IntKind.u16.wrap (bt132.1)]) (L.map mk) (L.map mk) ((L.map mk).length : Int) (wrap64 ((i : Int) + 1))) else (none)))) else (some (([] : List Int), false)))) w → Ev (fun k => ip_list.j1 k last acc (L.map mk) (mk x) (L.map mk) ((L.map mk).length : Int) (i : Int) false) w := fun z => Ev.step (fun _ => ip_list.j1.eq_2 ..) (Ev.neg (by decide) z)
      by_cases hp : x ≠ [] ∧ x.length ≤ 4 ∧ x.all (isD 16) = true
      · have ev : pieceV x = some (valL 16 x 0) := by unfold pieceV; rw [if_pos hp]
        have hv := val16_lt hp.2.2 hp.2.1
        obtain ⟨e, he, ih⟩ := list_loop last L hL hs r (i + 1) (acc ++ [valL 16 x 0]) e3 (by omega) (by rw [List.length_append]; simp; omega)
        refine ⟨e, he, hstep (Ev.bind (number_prog 16 (by omega) (mk x) (by omega)) ?_)⟩
        rw [B_mk, nm_val (by omega) (by omega) hp.2.2, mn_id (by omega)]
        refine Ev.pos rfl (Ev.neg (fun q => hp.1 (toList_nil.1 q)) (Ev.neg (by omega) (Ev.pos (by omega) ?_)))
        rw [u16_w, Int.emod_eq_of_lt hv.1 hv.2, wrap_id (x := (i : Int) + 1) (by omega) (by omega), cast_succ, ev, Option.bind_some]
        cases hr : piecesV last r with
        | none => rw [hr] at ih; exact ih
        | some u =>
          rw [hr] at ih
          simp only [Option.map_some, List.append_assoc, List.cons_append, List.nil_append] at ih ⊢
          exact ih
      · have ev : pieceV x = none := by unfold pieceV; rw [if_neg hp]
        rw [ev, Option.bind_none]
        refine ⟨[], Nat.zero_le _, hstep (Ev.bind (number_prog 16 (by omega) (mk x) (by omega)) ?_)⟩
        rw [B_mk]
        by_cases hd : x.all (isD 16) = true
        · rw [nm_val (by omega) (by omega) hd]
          refine Ev.pos rfl ?_
          by_cases hn : x = []
          · exact Ev.pos (toList_nil.2 hn) (Ev.now _)
          · refine Ev.neg (fun q => hn (toList_nil.1 q)) (Ev.pos ?_ (Ev.now _))
            have : ¬ x.length ≤ 4 := fun q => hp ⟨hn, q, hd⟩
            omega
        · rw [nm_no hd]
          exact Ev.neg (by decide) (Ev.now _)
    have hhead : ∀ {w : List Int × Bool}, Ev (fun k => (if last = true then (if (i : Int) = (wrap64 (((L.map mk).length : Int) - 1)) then ((strings_IndexByte.f (mk x) 46).bind fun t124 => (ip_list.j1 k last acc (L.map mk) (mk x) (L.map mk) ((L.map mk).length : Int) (i : Int) (decide (t124 ≥ 0)))) else (ip_list.j1 k last acc (L.map mk) (mk x) (L.map mk) ((L.map mk).length : Int) (i : Int) false)) else (ip_list.j1 k last acc (L.map mk) (mk x) (L.map mk) ((L.map mk).length : Int) (i : Int) false))) w → Ev (fun k => ip_list.l0 k last acc (L.map mk) (L.map mk) ((L.map mk).length : Int) (i : Int)) w := fun z => by
      refine Ev.step (fun _ => ip_list.l0.eq_2 ..) (Ev.pos (by rw [List.length_map]; omega) (Ev.pos (by omega) (Ev.pos (by rw [List.length_map]; omega) ?_)))
      rw [rdOf_of hg]
      exact z
    by_cases hl : last = true
    · by_cases hr : r = []
      · have hib : strings_IndexByte.f (mk x) 46 = some (Lib.indexByte x 46) := rfl
        by_cases h46 : 46 ∈ x
        · have hc := (idx_mem 46 x).2 h46
          have hfour := four_prog x hsx
          unfold piecesV
          rw [if_pos ⟨hl, hr, h46⟩]
          refine ⟨acc, by omega, hhead (Ev.pos hl (Ev.pos (hlast.2 hr) (Ev.bnd hib ?_)))⟩
          rw [decide_eq_true (show Lib.indexByte x 46 ≥ 0 from hc)]
          refine Ev.step (fun _ => ip_list.j1.eq_2 ..) (Ev.pos rfl (Ev.bind hfour ?_))
          cases hv : dotV x with
          | none =>
            refine Ev.pos (by simp only [List.length_nil]; omega) (Ev.tell ?_)
            simp
          | some u =>
            have hu := (dotV_rng hv).1
            exact Ev.pos (by simp only [hu]; omega) (Ev.now _)
        · have hc : ¬ Lib.indexByte x 46 ≥ 0 := fun q => h46 ((idx_mem 46 x).1 q)
          obtain ⟨e, he, z⟩ := hhex (fun q => h46 q.2.2)
          refine ⟨e, he, hhead (Ev.pos hl (Ev.pos (hlast.2 hr) (Ev.bnd hib ?_)))⟩
          rw [decide_eq_false hc]
          exact z
      · obtain ⟨e, he, z⟩ := hhex (fun q => hr q.2.1)
        exact ⟨e, he, hhead (Ev.pos hl (Ev.neg (fun q => hr (hlast.1 q)) z))⟩
    · obtain ⟨e, he, z⟩ := hhex (fun q => hl q.1)
      exact ⟨e, he, hhead (Ev.neg hl z)⟩
theorem list_prog (last : Bool) (s : ByteArray) (hs : s.size ≤ 1000000000) : ∃ e : List Int, e.length ≤ s.size + 1 ∧ Ev (fun k => ip_list.f k s last) (match PL last (B s) with | some w => (w, true) | none => (e, false)) := by
  have hz := size_B s
  have hl := spl_len 58 (B s)
  unfold PL
  by_cases h0 : B s = []
  · rw [if_pos h0]
    exact ⟨[], Nat.zero_le _, Ev.pos (toList_nil.2 h0) (Ev.now _)⟩
  · rw [if_neg h0]
    obtain ⟨e, he, z⟩ := list_loop last (spl 58 (B s)) (by omega) (fun x hx => by have := spl_mem 58 _ _ hx; omega) (spl 58 (B s)) 0 [] rfl (Nat.zero_le _) (Nat.le_refl _)
    exact ⟨e, by omega, Ev.neg (fun q => h0 (toList_nil.1 q)) (Ev.bnd (Split_ok s 58 (by omega)) z)⟩
theorem cut_colons : ∀ l : List UInt8, Lib.index l [58, 58] = (match colons l with | some n => (n : Int) | none => -1)
  | [] => rfl
  | a :: r => by
    have ih := cut_colons r
    unfold Lib.index colons
    have hp : ([58, 58] : List UInt8).isPrefixOf (a :: r) = true ↔ a = 58 ∧ r.head? = some 58 := by
      cases r with
      | nil =>
        constructor
        · intro q; simp only [List.isPrefixOf, Bool.and_false] at q; cases q
        · intro q; cases q.2
      | cons b t =>
        constructor
        · intro q
          simp only [List.isPrefixOf, Bool.and_true, Bool.and_eq_true] at q
          exact ⟨(eq_of_beq q.1).symm, by rw [List.head?_cons, ← eq_of_beq q.2]⟩
        · intro q
          obtain ⟨q1, q2⟩ := q
          subst q1
          obtain rfl : b = 58 := Option.some.inj q2
          rfl
    by_cases h : a = 58 ∧ r.head? = some 58
    · rw [if_pos (hp.2 h), if_pos h]; rfl
    · rw [if_neg (fun q => h (hp.1 q)), if_neg h, ih]
      cases colons r with
      | none => rfl
      | some n =>
        show (if ((n : Int) == -1) = true then _ else _) = _
        rw [if_neg (fun q => by have := eq_of_beq q; omega)]; rfl
theorem cut_some {l : List UInt8} {n : Nat} (h : colons l = some n) : Lib.cut l [58, 58] = (l.take n, l.drop (n + 2), true) := by
  unfold Lib.cut
  rw [cut_colons, h]
  show (if (0 : Int) ≤ (n : Int) then _ else _) = _
  rw [if_pos (by omega), Int.toNat_natCast]
  rfl
theorem cut_none {l : List UInt8} (h : colons l = none) : Lib.cut l [58, 58] = (l, [], false) := by
  unfold Lib.cut
  rw [cut_colons, h]
  rfl
/-- Eight pieces of a text. -/
def P6a : Option (List Int) → List Int × Int
  | some v => if v.length = 8 then (v, 0) else (zero8, 4)
  | none => (zero8, 4)
def P6b : Option (List Int) → Option (List Int) → List Int × Int
  | some a, some b => if a.length + b.length ≤ 7 then (a ++ (List.replicate (8 - a.length - b.length) 0 ++ b), 0) else (zero8, 4)
  | some _, none => (zero8, 4)
  | none, _ => (zero8, 4)
def P6 (l : List UInt8) : List Int × Int :=
  if 4000 < l.length then (zero8, 11) else match colons l with
  | none => P6a (PL true l)
  | some n => P6b (PL false (l.take n)) (PL true (l.drop (n + 2)))
theorem P6a_some (v : List Int) : P6a (some v) = if v.length = 8 then (v, 0) else (zero8, 4) := rfl
theorem P6b_some (a b : List Int) : P6b (some a) (some b) = if a.length + b.length ≤ 7 then (a ++ (List.replicate (8 - a.length - b.length) 0 ++ b), 0) else (zero8, 4) := rfl
theorem zero8_len' : zero8.length = 8 := rfl
theorem P6a_len (p : Option (List Int)) : (P6a p).1.length = 8 := by
  cases p with
  | none => rfl
  | some v =>
    rw [P6a_some]
    split
    · rename_i h; exact h
    · rfl
theorem P6b_len (p q : Option (List Int)) : (P6b p q).1.length = 8 := by
  cases p with
  | none => rfl
  | some a =>
    cases q with
    | none => rfl
    | some b =>
      rw [P6b_some]
      split
      · rw [List.length_append, List.length_append, List.length_replicate]; omega
      · rfl
theorem res_no {short ok fine : Bool} {l m : List Int} (h : ip_Parse6.bad short ok fine l m = true) : ip_Parse6.res short ok fine l m = (zero8, 4) := by unfold ip_Parse6.res; rw [if_pos h]
theorem splice_all (v : List Int) (h : v.length = 8) : splice zero8 0 v = v := by
  unfold splice
  rw [h, List.take_zero, List.nil_append, List.drop_eq_nil_of_le (by rw [zero8_len]; omega), List.append_nil]
theorem splice_end (v : List Int) (h : v.length = 8) : splice v (8 - ([] : List Int).length) [] = v := by
  unfold splice
  rw [List.length_nil, List.nil_append, Nat.add_zero, List.take_append_drop]
theorem splice_ab (a b : List Int) (h : a.length + b.length ≤ 7) : splice (splice zero8 0 a) (8 - b.length) b = a ++ (List.replicate (8 - a.length - b.length) 0 ++ b) := by
  have hz : zero8 = List.replicate 8 0 := rfl
  unfold splice
  rw [List.take_zero, List.nil_append, Nat.zero_add, hz, List.drop_replicate, List.take_append, List.take_of_length_le (by omega), List.take_replicate, List.drop_append, List.drop_of_length_le (by omega), List.drop_replicate]
  rw [show 8 - a.length - (8 - b.length + b.length - a.length) = 0 by omega, show min (8 - b.length - a.length) (8 - a.length) = 8 - a.length - b.length by omega]
  simp
theorem P6_len (l : List UInt8) : (P6 l).1.length = 8 := by
  unfold P6
  split
  · rfl
  · split
    · exact P6a_len _
    · exact P6b_len _ _
theorem PL_nil (b : Bool) : PL b [] = some [] := rfl
theorem cutf (s : ByteArray) (hs : s.size ≤ 4000) : strings_Cut.f s (⟨#[58, 58]⟩ : ByteArray) = some (mk (Lib.cut (B s) [58, 58]).1, mk (Lib.cut (B s) [58, 58]).2.1, (Lib.cut (B s) [58, 58]).2.2) := by
  unfold strings_Cut.f
  rw [if_pos (by omega)]
  rfl
theorem Parse6_prog (s : ByteArray) (hs : s.size ≤ 1000000000) : Ev (fun k => ip_Parse6.g k s) (P6 (B s)) := by
  have hz := size_B s
  unfold P6
  by_cases h0 : 4000 < (B s).length
  · rw [if_pos h0]
    exact Ev.neg (by omega) (Ev.now _)
  · rw [if_neg h0]
    refine Ev.pos (by omega) (Ev.bnd (cutf s (by omega)) ?_)
    cases hc : colons (B s) with
    | none =>
      rw [cut_none hc]
      show Ev _ (P6a (PL true (B s)))
      obtain ⟨e, he, z⟩ := list_prog true (mk (B s)) (by rw [size_B, B_mk]; omega)
      rw [B_mk] at z
      have z2 : Ev (fun k => ip_list.f k (mk []) true) (([] : List Int), true) := Ev.pos (toList_nil.2 rfl) (Ev.now _)
      have he' : e.length ≤ 4001 := by rw [size_B, B_mk] at he; omega
      cases hp : PL true (B s) with
      | none =>
        rw [hp] at z
        refine Ev.bind z (Ev.bind z2 (Ev.pos ⟨by simp only; omega, by simp, fun _ => by simp⟩ (Ev.tell ?_)))
        exact res_no rfl
      | some v =>
        rw [hp] at z
        have hv := (PL_rng hp).1
        refine Ev.bind z (Ev.bind z2 (Ev.pos ⟨by simp only; omega, by simp, fun _ => by simp⟩ (Ev.tell ?_)))
        show ip_Parse6.res false true true v [] = _
        unfold ip_Parse6.res ip_Parse6.bad
        rw [P6a_some]
        by_cases h8 : v.length = 8
        · rw [if_neg (by simp [h8]), splice_all v h8, splice_end v h8]
          rw [if_pos h8]
        · rw [if_pos (by simp [h8]), if_neg h8]
    | some n =>
      rw [cut_some hc]
      show Ev _ (P6b (PL false ((B s).take n)) (PL true ((B s).drop (n + 2))))
      have hn := colons_lt _ _ hc
      obtain ⟨e, he, z⟩ := list_prog false (mk ((B s).take n)) (by rw [size_B, B_mk, List.length_take]; omega)
      obtain ⟨e2, he2, z2⟩ := list_prog true (mk ((B s).drop (n + 2))) (by rw [size_B, B_mk, List.length_drop]; omega)
      rw [B_mk] at z z2
      have he' : e.length ≤ 4001 := by rw [size_B, B_mk, List.length_take] at he; omega
      have he2' : e2.length ≤ 4001 := by rw [size_B, B_mk, List.length_drop] at he2; omega
      cases hp : PL false ((B s).take n) with
      | none =>
        rw [hp] at z
        cases hp2 : PL true ((B s).drop (n + 2)) with
        | none =>
          rw [hp2] at z2
          refine Ev.bind z (Ev.bind z2 (Ev.pos ⟨by simp only; omega, by simp only; omega, fun q => by simp [ip_Parse6.bad] at q⟩ (Ev.tell ?_)))
          exact res_no rfl
        | some b =>
          rw [hp2] at z2
          have hb := (PL_rng hp2).1
          rw [List.length_drop] at hb
          refine Ev.bind z (Ev.bind z2 (Ev.pos ⟨by simp only; omega, by simp only; omega, fun q => by simp [ip_Parse6.bad] at q⟩ (Ev.tell ?_)))
          exact res_no rfl
      | some a =>
        rw [hp] at z
        have ha := (PL_rng hp).1
        rw [List.length_take] at ha
        cases hp2 : PL true ((B s).drop (n + 2)) with
        | none =>
          rw [hp2] at z2
          refine Ev.bind z (Ev.bind z2 (Ev.pos ⟨by simp only; omega, by simp only; omega, fun q => by simp [ip_Parse6.bad] at q⟩ (Ev.tell ?_)))
          exact res_no rfl
        | some b =>
          rw [hp2] at z2
          have hb := (PL_rng hp2).1
          rw [List.length_drop] at hb
          refine Ev.bind z (Ev.bind z2 (Ev.pos ⟨by simp only; omega, by simp only; omega, fun q => by simp [ip_Parse6.bad] at q; simp only; omega⟩ (Ev.tell ?_)))
          show ip_Parse6.res true true true a b = _
          unfold ip_Parse6.res ip_Parse6.bad
          rw [P6b_some]
          by_cases h7 : a.length + b.length ≤ 7
          · rw [if_neg (by simp; omega), splice_ab a b h7, if_pos h7]
          · rw [if_pos (by simp; omega), if_neg h7]
/-- A number below 65536 in digits of 16. -/
def hx (n : Nat) : List UInt8 := if n < 16 then [Own.hexD n] else if n < 256 then [Own.hexD (n / 16), Own.hexD (n % 16)] else if n < 4096 then [Own.hexD (n / 256), Own.hexD (n / 16 % 16), Own.hexD (n % 16)] else [Own.hexD (n / 4096), Own.hexD (n / 256 % 16), Own.hexD (n / 16 % 16), Own.hexD (n % 16)]
theorem hexT_eq {n : Nat} (h : n < 65536) : Own.hexT 16 n [] = hx n := by
  unfold hx
  by_cases h1 : n < 16
  · rw [if_pos h1, Own.hexT.eq_2, if_pos h1]
  · rw [if_neg h1, Own.hexT.eq_2, if_neg h1]
    by_cases h2 : n < 256
    · rw [if_pos h2, Own.hexT.eq_2, if_pos (by omega)]
    · rw [if_neg h2, Own.hexT.eq_2, if_neg (by omega)]
      by_cases h3 : n < 4096
      · rw [if_pos h3, Own.hexT.eq_2, if_pos (by omega), show n / 16 / 16 = n / 256 by omega]
      · rw [if_neg h3, Own.hexT.eq_2, if_neg (by omega), Own.hexT.eq_2, if_pos (by omega), show n / 16 / 16 = n / 256 by omega, show n / 256 / 16 = n / 4096 by omega]
theorem hx_len (n : Nat) : (hx n).length ≤ 4 ∧ 1 ≤ (hx n).length := by
  unfold hx
  split
  · simp
  · split
    · simp
    · split <;> simp
def hI (x : Int) : List UInt8 := hx x.toNat
/-- Texts with colons between. -/
def tl : List (List UInt8) → List UInt8
  | [] => []
  | x :: r => 58 :: (x ++ tl r)
def jn : List (List UInt8) → List UInt8
  | [] => []
  | x :: r => x ++ tl r
theorem jn_inter : ∀ l : List (List UInt8), ([58] : List UInt8).intercalate l = jn l
  | [] => rfl
  | [x] => by simp [List.intercalate, jn, tl]
  | x :: y :: r => by
    have ih := jn_inter (y :: r)
    have e : ([58] : List UInt8).intercalate (x :: y :: r) = x ++ 58 :: ([58] : List UInt8).intercalate (y :: r) := by simp [List.intercalate, List.intersperse]
    rw [e, ih]
    rfl
theorem tl_append : ∀ a b : List (List UInt8), tl (a ++ b) = tl a ++ tl b
  | [], b => rfl
  | x :: a, b => by
    show 58 :: (x ++ tl (a ++ b)) = (58 :: (x ++ tl a)) ++ tl b
    rw [tl_append a b]
    simp
theorem jn_snoc (a : List (List UInt8)) (x : List UInt8) : jn (a ++ [x]) = if a = [] then x else jn a ++ 58 :: x := by
  cases a with
  | nil => simp [jn, tl]
  | cons y r =>
    rw [if_neg (by simp)]
    show y ++ tl (r ++ [x]) = (y ++ tl r) ++ 58 :: x
    rw [tl_append]
    simp [tl]
theorem tl_len : ∀ l : List (List UInt8), (∀ x ∈ l, x.length ≤ 4) → (tl l).length ≤ 5 * l.length
  | [], _ => Nat.le_refl _
  | x :: r, h => by
    have := tl_len r (fun y hy => h y (List.mem_cons_of_mem _ hy))
    have := h x List.mem_cons_self
    simp only [tl, List.length_cons, List.length_append]; omega
theorem jn_len (l : List (List UInt8)) (h : ∀ x ∈ l, x.length ≤ 4) : (jn l).length ≤ 5 * l.length := by
  cases l with
  | nil => exact Nat.le_refl _
  | cons x r =>
    have := tl_len r (fun y hy => h y (List.mem_cons_of_mem _ hy))
    have := h x List.mem_cons_self
    simp only [jn, List.length_cons, List.length_append]; omega
def okP (p : List Int) : Prop := ∀ x ∈ p, 0 ≤ x ∧ x < 65536
theorem Fmt_ok (x : Int) (h0 : 0 ≤ x) (h1 : x < 65536) : strconv_FormatUint.f (IntKind.u64.wrap x) 16 = some (mk (hI x)) := by
  have e : IntKind.u64.wrap x = x := by show x % 18446744073709551616 = x; omega
  unfold strconv_FormatUint.f
  rw [e, if_pos ⟨h0, by omega, rfl⟩, hexT_eq (by omega)]
  rfl
theorem text_loop (p : List Int) (hp : okP p) (hl : p.length ≤ 8) : ∀ (rest : List Int) (i : Nat) (acc : List (List UInt8)), p.drop i = rest → i ≤ p.length → acc.length = i → acc = (p.take i).map hI → Ev (fun k => ip_text.l0 k (acc.map mk) p (p.length : Int) (i : Int)) (mk (jn (p.map hI)))
  | [], i, acc, h, hi, ha, he => by
    have hh := drop_nil h
    have e : i = p.length := by omega
    subst e
    rw [List.take_length] at he
    have hj : (jn (p.map hI)).length ≤ 1000000 := by
      have := jn_len (p.map hI) (fun x hx => by obtain ⟨y, _, rfl⟩ := List.mem_map.1 hx; exact (hx_len _).1)
      rw [List.length_map] at this; omega
    refine Ev.step (fun _ => ip_text.l0.eq_2 ..) (Ev.neg (by omega) ?_)
    have z := join_f acc 58 (by omega) (by rw [jn_inter, he]; exact hj)
    rw [jn_inter, he] at z
    rw [he]
    exact Ev.bnd z (Ev.now _)
  | x :: r, i, acc, h, hi, ha, he => by
    obtain ⟨e1, e2, e3⟩ := drop_cons h
    have hx := hp x (List.mem_of_getElem? e2)
    have ih := text_loop p hp hl r (i + 1) (acc ++ [hI x]) e3 (by omega) (by rw [List.length_append, ha]; rfl) (by rw [he, List.take_add_one, e2, List.map_append]; rfl)
    refine Ev.step (fun _ => ip_text.l0.eq_2 ..) (Ev.pos (by omega) (Ev.pos (by omega) (Ev.pos (by omega) ?_)))
    rw [rd_of e2]
    refine Ev.bnd (Fmt_ok x hx.1 hx.2) (Ev.pos (by rw [List.length_map]; omega) ?_)
    rw [wrap_id (x := (i : Int) + 1) (by omega) (by omega), cast_succ]
    rw [List.map_append] at ih
    exact ih
theorem text_prog (p : List Int) (hp : okP p) (hl : p.length ≤ 8) : Ev (fun k => ip_text.f k p) (mk (jn (p.map hI))) := text_loop p hp hl p 0 [] rfl (Nat.zero_le _) rfl rfl
/-- Eight pieces written. -/
def pr6 (p : List Int) : List UInt8 := if (zerosG p 0 0 0 0).2 < 2 then jn (p.map hI) else jn ((p.take (zerosG p 0 0 0 0).1.toNat).map hI) ++ ([58, 58] ++ jn ((p.drop ((zerosG p 0 0 0 0).1 + (zerosG p 0 0 0 0).2).toNat).map hI))
theorem okP_take {p : List Int} (h : okP p) (n : Nat) : okP (p.take n) := fun x hx => h x (List.mem_of_mem_take hx)
theorem okP_drop {p : List Int} (h : okP p) (n : Nat) : okP (p.drop n) := fun x hx => h x (List.mem_of_mem_drop hx)
theorem jnI_len (p : List Int) (hl : p.length ≤ 8) : (jn (p.map hI)).length ≤ 40 := by
  have := jn_len (p.map hI) (fun x hx => by obtain ⟨y, _, rfl⟩ := List.mem_map.1 hx; exact (hx_len _).1)
  rw [List.length_map] at this; omega
theorem Print6_prog (p : List Int) (hp : okP p) (h8 : p.length = 8) : Ev (fun k => ip_Print6.g k p) (mk (pr6 p)) := by
  unfold ip_Print6.g pr6
  refine Ev.pos h8 ?_
  by_cases h2 : (zerosG p 0 0 0 0).2 < 2
  · rw [if_pos h2]
    exact Ev.pos h2 (text_prog p hp (by omega))
  · rw [if_neg h2]
    refine Ev.neg h2 (Ev.bind (text_prog _ (okP_take hp _) (by rw [List.length_take]; omega)) (Ev.bind (text_prog _ (okP_drop hp _) (by rw [List.length_drop]; omega)) (Ev.pos ?_ (Ev.tell ?_))))
    · have := jnI_len (p.take (zerosG p 0 0 0 0).1.toNat) (by rw [List.length_take]; omega)
      have := jnI_len (p.drop ((zerosG p 0 0 0 0).1 + (zerosG p 0 0 0 0).2).toNat) (by rw [List.length_drop]; omega)
      rw [size_B, size_B, B_mk, B_mk]; omega
    · apply B_inj
      rw [B_append, B_append, B_mk, B_mk, B_mk]
      show _ ++ [58, 58] ++ _ = _
      rw [List.append_assoc]
/-- The run of zeros, by what is zero alone. -/
def zG : List Bool → Int → Int → Int → Int → Int × Int
  | [], _, a, m, _ => (a, m)
  | x :: r, i, a, m, n => if x = true then (if n + 1 > m then zG r (i + 1) (i + 1 - (n + 1)) (n + 1) (n + 1) else zG r (i + 1) a m (n + 1)) else (if 0 > m then zG r (i + 1) (i + 1) 0 0 else zG r (i + 1) a m 0)
theorem zG_eq : ∀ (p : List Int) (i a m n : Int), zerosG p i a m n = zG (p.map (· == 0)) i a m n
  | [], i, a, m, n => rfl
  | x :: r, i, a, m, n => by
    have ih := zG_eq r
    by_cases h : x = 0
    · subst h
      simp [zerosG, zG, ih]
    · simp [zerosG, zG, ih, h]
def zrunc (b : List Bool) : Bool := (List.range 8).all fun i => !(decide ((zG b 0 0 0 0).1 ≤ (i : Int)) && decide ((i : Int) < (zG b 0 0 0 0).1 + (zG b 0 0 0 0).2)) || b.getD i false
theorem zrunc_all : ∀ b0 b1 b2 b3 b4 b5 b6 b7 : Bool, zrunc [b0, b1, b2, b3, b4, b5, b6, b7] = true := by decide +kernel
theorem zeros_run (p : List Int) (h8 : p.length = 8) (i : Nat) (h1 : (zerosG p 0 0 0 0).1 ≤ (i : Int)) (h2 : (i : Int) < (zerosG p 0 0 0 0).1 + (zerosG p 0 0 0 0).2) : p[i]? = some 0 := by
  have hr := zerosG_rng p 0 0 0 0 (by decide) (by decide) (by decide) (by decide) (by decide)
  have hi : i < 8 := by omega
  have hc : zrunc (p.map (· == 0)) = true := by
    match p, h8 with
    | [a, b, c, d, e, f, g, h], _ => exact zrunc_all _ _ _ _ _ _ _ _
  unfold zrunc at hc
  rw [List.all_eq_true] at hc
  have z := hc i (List.mem_range.2 hi)
  rw [← zG_eq, decide_eq_true h1, decide_eq_true h2] at z
  have hx : p[i]? = some (p[i]'(by omega)) := List.getElem?_eq_getElem _
  have z2 : (p[i]'(by omega) == 0) = true := by simpa [List.getD_eq_getElem?_getD, hx] using z
  rw [hx, eq_of_beq z2]
theorem shr_at (j : Nat) (hj : j ≤ 3) (v : Int) : shr .i64 v (wrap64 (8 * (wrap64 (4 - (j : Int))))) = v / [4294967296, 16777216, 65536, 256].getD j 1 := by
  match j, hj with
  | 0, _ => show _ = _; kernel_rfl
  | 1, _ => show _ = _; kernel_rfl
  | 2, _ => show _ = _; kernel_rfl
  | 3, _ => show _ = _; kernel_rfl
theorem shl_at (j : Nat) (hj : j < 3) (v : Int) : shl .i64 v (wrap64 (8 * (wrap64 (3 - (j : Int))))) = wrap64 (v * [16777216, 65536, 256].getD j 1) := by
  refine Eq.trans (b := IntKind.i64.wrap (v * [16777216, 65536, 256].getD j 1)) ?_ (i64_w _)
  match j, hj with
  | 0, _ => show _ = _; kernel_rfl
  | 1, _ => show _ = _; kernel_rfl
  | 2, _ => show _ = _; kernel_rfl
theorem four1 (a : Int) : fourV [a] = if a < 4294967296 then (a, 0) else (0, 1) := rfl
theorem four2 (a b : Int) : fourV [a, b] = if a ≤ 255 ∧ b < 16777216 then (a * 16777216 + b, 0) else (0, 1) := rfl
theorem four3 (a b c : Int) : fourV [a, b, c] = if a ≤ 255 ∧ b ≤ 255 ∧ c < 65536 then (a * 16777216 + b * 65536 + c, 0) else (0, 1) := rfl
theorem four4 (a b c d : Int) : fourV [a, b, c, d] = if a ≤ 255 ∧ b ≤ 255 ∧ c ≤ 255 ∧ d < 256 then (a * 16777216 + b * 65536 + c * 256 + d, 0) else (0, 1) := rfl
theorem l1_step (acc : Int) (L : List Int) (i : Nat) (v : Int) (hv : L[i]? = some v) (hL : L.length ≤ 3) {r : Int × Int} (h : v ≤ 255 → Ev (fun k => ip_Parse4.l1 k (wrap64 (acc + wrap64 (v * [16777216, 65536, 256].getD i 1))) L (L.length : Int) ((i + 1 : Nat) : Int)) r) (h2 : ¬ v ≤ 255 → r = (0, 1)) : Ev (fun k => ip_Parse4.l1 k acc L (L.length : Int) (i : Int)) r := by
  have hi := (List.getElem?_eq_some_iff.1 hv).1
  refine Ev.step (fun _ => ip_Parse4.l1.eq_2 ..) (Ev.pos (by omega) (Ev.pos (by omega) (Ev.pos (by omega) ?_)))
  rw [rd_of hv]
  by_cases q : v ≤ 255
  · refine Ev.neg (by omega) (Ev.pos ?_ ?_)
    · match i, (show i < 3 by omega) with
      | 0, _ => decide +kernel
      | 1, _ => decide +kernel
      | 2, _ => decide +kernel
    · rw [shl_at i (by omega), wrap_id (x := (i : Int) + 1) (by omega) (by omega), cast_succ]
      exact h q
  · rw [h2 q]
    exact Ev.pos (by omega) (Ev.now _)
theorem l1_end (acc : Int) (L : List Int) : Ev (fun k => ip_Parse4.l1 k acc L (L.length : Int) (L.length : Int)) (acc % 4294967296, 0) :=
  Ev.step (fun _ => ip_Parse4.l1.eq_2 ..) (Ev.neg (by omega) (Ev.now _))
theorem p4_last (L : List (List UInt8)) (m : List Int) (v : Int) (hm : m.length ≤ 3) (hl : m.length + 1 = L.length) {r : Int × Int} (h : v / [4294967296, 16777216, 65536, 256].getD m.length 1 ≤ 0 → Ev (fun k => ip_Parse4.l1 k v m (m.length : Int) 0) r) (h2 : v / [4294967296, 16777216, 65536, 256].getD m.length 1 > 0 → r = (0, 1)) :
    Ev (fun k => ip_Parse4.l0 k (m ++ [v]) (L.map mk) ((L.map mk).length : Int) (L.length : Int)) r := by
  have hn : (m ++ [v]).length = m.length + 1 := by rw [List.length_append]; rfl
  have e : wrap64 (((m ++ [v]).length : Int) - 1) = (m.length : Int) := by rw [hn, wrap_id (by omega) (by omega)]; omega
  have hg : (m ++ [v])[m.length]? = some v := by rw [List.getElem?_append_right (Nat.le_refl _), Nat.sub_self]; rfl
  refine Ev.step (fun _ => ip_Parse4.l0.eq_2 ..) (Ev.neg (by rw [List.length_map]; omega) ?_)
  rw [e, rd_of hg, shr_at m.length hm]
  refine Ev.pos (by omega) (Ev.pos (by rw [hn]; omega) (Ev.pos ?_ ?_))
  · match hj : m.length, hm with
    | 0, _ => decide +kernel
    | 1, _ => decide +kernel
    | 2, _ => decide +kernel
    | 3, _ => decide +kernel
  · by_cases q : v / [4294967296, 16777216, 65536, 256].getD m.length 1 > 0
    · rw [h2 q]
      exact Ev.pos q (Ev.now _)
    · refine Ev.neg q (Ev.pos (by rw [hn]; omega) (Ev.bnd (a := m) (by rw [Int.toNat_natCast, List.take_append_of_le_length (Nat.le_refl _), List.take_length]) ?_))
      exact h (by omega)
theorem p4_end (L : List (List UInt8)) (n : List Int) (hl : n.length = L.length) (hn : ∀ v ∈ n, 0 ≤ v ∧ v ≤ 8589934592) (h1 : 0 < n.length) (h4 : n.length ≤ 4) : Ev (fun k => ip_Parse4.l0 k n (L.map mk) ((L.map mk).length : Int) (L.length : Int)) (fourV n) := by
  match n, h1, h4 with
  | [a], _, _ =>
    have ha := hn a (by simp)
    refine p4_last L [] a (by simp) hl (fun q => ?_) (fun q => ?_)
    · have q' : a / 4294967296 ≤ 0 := q
      have z := l1_end a []
      rw [four1, if_pos (by omega)]
      rw [Int.emod_eq_of_lt ha.1 (by omega)] at z
      exact z
    · have q' : a / 4294967296 > 0 := q
      rw [four1, if_neg (by omega)]
  | [a, b], _, _ =>
    have ha := hn a (by simp)
    have hb := hn b (by simp)
    refine p4_last L [a] b (by simp) hl (fun q => ?_) (fun q => ?_)
    · have q' : b / 16777216 ≤ 0 := q
      refine l1_step b [a] 0 a rfl (by simp) (fun h => ?_) (fun h => by rw [four2, if_neg (fun z => h z.1)])
      have z := l1_end (wrap64 (b + wrap64 (a * 16777216))) [a]
      rw [four2, if_pos ⟨h, by omega⟩]
      rw [wrap_id (x := a * 16777216) (by omega) (by omega), wrap_id (by omega) (by omega), Int.emod_eq_of_lt (by omega) (by omega), Int.add_comm b] at z
      rw [show wrap64 (b + wrap64 (a * [16777216, 65536, 256].getD 0 1)) = a * 16777216 + b by show wrap64 (b + wrap64 (a * 16777216)) = _; rw [wrap_id (x := a * 16777216) (by omega) (by omega), wrap_id (by omega) (by omega), Int.add_comm]]
      exact z
    · have q' : b / 16777216 > 0 := q
      rw [four2, if_neg (by omega)]
  | [a, b, c], _, _ =>
    have ha := hn a (by simp)
    have hb := hn b (by simp)
    have hc := hn c (by simp)
    refine p4_last L [a, b] c (by simp) hl (fun q => ?_) (fun q => ?_)
    · have q' : c / 65536 ≤ 0 := q
      refine l1_step c [a, b] 0 a rfl (by simp) (fun h => ?_) (fun h => by rw [four3, if_neg (fun z => h z.1)])
      refine l1_step _ [a, b] 1 b rfl (by simp) (fun h' => ?_) (fun h' => by rw [four3, if_neg (fun z => h' z.2.1)])
      have e : wrap64 (wrap64 (c + wrap64 (a * [16777216, 65536, 256].getD 0 1)) + wrap64 (b * [16777216, 65536, 256].getD 1 1)) = a * 16777216 + b * 65536 + c := by
        show wrap64 (wrap64 (c + wrap64 (a * 16777216)) + wrap64 (b * 65536)) = _
        rw [wrap_id (x := a * 16777216) (by omega) (by omega), wrap_id (x := b * 65536) (by omega) (by omega), wrap_id (x := c + a * 16777216) (by omega) (by omega), wrap_id (by omega) (by omega)]; omega
      rw [e]
      have z := l1_end (a * 16777216 + b * 65536 + c) [a, b]
      rw [Int.emod_eq_of_lt (by omega) (by omega)] at z
      rw [four3, if_pos ⟨h, h', by omega⟩]
      exact z
    · have q' : c / 65536 > 0 := q
      rw [four3, if_neg (by omega)]
  | [a, b, c, d], _, _ =>
    have ha := hn a (by simp)
    have hb := hn b (by simp)
    have hc := hn c (by simp)
    have hd := hn d (by simp)
    refine p4_last L [a, b, c] d (by simp) hl (fun q => ?_) (fun q => ?_)
    · have q' : d / 256 ≤ 0 := q
      refine l1_step d [a, b, c] 0 a rfl (by simp) (fun h => ?_) (fun h => by rw [four4, if_neg (fun z => h z.1)])
      refine l1_step _ [a, b, c] 1 b rfl (by simp) (fun h' => ?_) (fun h' => by rw [four4, if_neg (fun z => h' z.2.1)])
      refine l1_step _ [a, b, c] 2 c rfl (by simp) (fun h2 => ?_) (fun h2 => by rw [four4, if_neg (fun z => h2 z.2.2.1)])
      have e : wrap64 (wrap64 (wrap64 (d + wrap64 (a * [16777216, 65536, 256].getD 0 1)) + wrap64 (b * [16777216, 65536, 256].getD 1 1)) + wrap64 (c * [16777216, 65536, 256].getD 2 1)) = a * 16777216 + b * 65536 + c * 256 + d := by
        show wrap64 (wrap64 (wrap64 (d + wrap64 (a * 16777216)) + wrap64 (b * 65536)) + wrap64 (c * 256)) = _
        rw [wrap_id (x := a * 16777216) (by omega) (by omega), wrap_id (x := b * 65536) (by omega) (by omega), wrap_id (x := c * 256) (by omega) (by omega), wrap_id (x := d + a * 16777216) (by omega) (by omega), wrap_id (x := d + a * 16777216 + b * 65536) (by omega) (by omega), wrap_id (by omega) (by omega)]; omega
      rw [e]
      have z := l1_end (a * 16777216 + b * 65536 + c * 256 + d) [a, b, c]
      rw [Int.emod_eq_of_lt (by omega) (by omega)] at z
      rw [four4, if_pos ⟨h, h', h2, by omega⟩]
      exact z
    · have q' : d / 256 > 0 := q
      rw [four4, if_neg (by omega)]
theorem mn_rng {v c : Int} (h : 0 ≤ v) (hc : 0 ≤ c) : 0 ≤ mn v c ∧ mn v c ≤ c := by unfold mn; split <;> omega
theorem partV_rng (cap : Int) (hc : 0 ≤ cap) (l : List UInt8) : 0 ≤ (partV cap l).1 ∧ (partV cap l).1 ≤ cap := by
  obtain ⟨v, ok, h0, hv⟩ := partV_caps l
  rw [hv cap hc]
  cases ok with
  | false => exact ⟨Int.le_refl _, hc⟩
  | true => exact mn_rng h0 hc
theorem p4_loop (L : List (List UInt8)) (hL : L.length ≤ 4) (h1 : 0 < L.length) (hs : ∀ x ∈ L, x.length ≤ 1000000000) : ∀ (rest : List (List UInt8)) (i : Nat) (acc : List Int), L.drop i = rest → i ≤ L.length → acc.length = i → (∀ v ∈ acc, 0 ≤ v ∧ v ≤ 8589934592) → Ev (fun k => ip_Parse4.l0 k acc (L.map mk) ((L.map mk).length : Int) (i : Int)) (match vals 8589934592 rest with | none => (0, 4) | some n => fourV (acc ++ n))
  | [], i, acc, h, hi, ha, hv => by
    have e : i = L.length := by have := drop_nil h; omega
    subst e
    simp only [vals, List.append_nil]
    exact p4_end L acc ha hv (by omega) (by omega)
  | x :: r, i, acc, h, hi, ha, hv => by
    obtain ⟨e1, e2, e3⟩ := drop_cons h
    have hx : x ∈ L := List.mem_of_getElem? e2
    have hsx : (mk x).size ≤ 1000000000 := by rw [size_B, B_mk]; exact hs x hx
    have hg : (L.map mk)[i]? = some (mk x) := by rw [List.getElem?_map, e2]; rfl
    refine Ev.step (fun _ => ip_Parse4.l0.eq_2 ..) (Ev.pos (by rw [List.length_map]; omega) (Ev.pos (by omega) (Ev.pos (by rw [List.length_map]; omega) ?_)))
    rw [rdOf_of hg]
    refine Ev.bind (part_prog (mk x) hsx) ?_
    rw [B_mk]
    unfold vals
    by_cases hok : (partV 8589934592 x).2 = true
    · rw [if_pos hok]
      have ih := p4_loop L hL h1 hs r (i + 1) (acc ++ [(partV 8589934592 x).1]) e3 (by omega) (by rw [List.length_append, ha]; rfl) (by
        intro v hv'
        rcases List.mem_append.1 hv' with q | q
        · exact hv v q
        · rw [List.mem_singleton.1 q]; exact partV_rng _ (by omega) x)
      refine Ev.pos hok (Ev.pos (by omega) ?_)
      rw [wrap_id (x := (i : Int) + 1) (by omega) (by omega), cast_succ]
      cases hr : vals 8589934592 r with
      | none => rw [hr] at ih; exact ih
      | some n =>
        rw [hr] at ih
        simp only [List.append_assoc, List.cons_append, List.nil_append] at ih
        exact ih
    · rw [if_neg hok]
      exact Ev.neg hok (Ev.now _)
theorem Parse4_prog (s : ByteArray) (hs : s.size ≤ 1000000000) : Ev (fun k => ip_Parse4.f k s) (P4 8589934592 (B s)) := by
  have hz := size_B s
  unfold P4
  by_cases h0 : 4000 < (B s).length
  · rw [if_pos h0]
    exact Ev.pos (by omega) (Ev.now _)
  · rw [if_neg h0]
    refine Ev.neg (by omega) (Ev.bnd (parts_prog s hs) ?_)
    by_cases h4 : 4 < (prts (B s)).length
    · rw [if_pos h4]
      exact Ev.pos (by rw [List.length_map]; omega) (Ev.now _)
    · rw [if_neg h4]
      refine Ev.neg (by rw [List.length_map]; omega) ?_
      exact p4_loop (prts (B s)) (by omega) (List.length_pos_iff.2 (prts_ne _)) (fun x hx => by have := prts_mem hx; omega) (prts (B s)) 0 [] rfl (by omega) rfl (fun _ h => by cases h)
theorem ends_prog (s : ByteArray) (hs : s.size ≤ 1000000000) : Ev (fun k => ip_Ends.f k s) (endsV (B s)) := by
  have hz := size_B s
  have hl := prts_len (B s)
  have hp : 0 < (prts (B s)).length := List.length_pos_iff.2 (prts_ne _)
  refine Ev.bnd (parts_prog s hs) ?_
  rw [last_rd (prts_ne (B s)) (by omega), List.length_map, wrap_id (by omega) (by omega)]
  unfold endsV
  have hm := prts_mem (List.getLast_mem (prts_ne (B s)))
  generalize (prts (B s)).getLast (prts_ne (B s)) = x at *
  have hx : (mk x).size ≤ 1000000000 := by rw [size_B, B_mk]; omega
  refine Ev.pos (by omega) (Ev.pos (by omega) ?_)
  unfold endX
  by_cases h0 : x = []
  · subst h0
    exact Ev.pos (toList_nil.2 rfl) (Ev.now _)
  · have he : x.isEmpty = false := by cases x with | nil => exact absurd rfl h0 | cons a t => rfl
    rw [he]
    refine Ev.neg (fun q => h0 (toList_nil.1 q)) (Ev.bind (number_prog 10 (by omega) (mk x) hx) ?_)
    rw [B_mk, nm_ok]
    by_cases h10 : x.all (isD 10) = true
    · rw [h10]
      exact Ev.pos rfl (Ev.now _)
    · have h10' : x.all (isD 10) = false := by simpa using h10
      rw [h10']
      refine Ev.neg (by decide) (Ev.bind (part_prog (mk x) hx) ?_)
      rw [B_mk]
      refine Ev.tell ?_
      unfold partV
      rw [if_neg h0]
      by_cases hh : hexP x = true
      · rw [if_pos hh, nm_ok, hh]; rfl
      · rw [if_neg hh, show hexP x = false by simpa using hh]
        split
        · rename_i h8
          rw [nm_ok]
          cases hq : (x.drop 1).all (isD 8) with
          | false => rfl
          | true =>
            exfalso
            apply h10
            cases x with
            | nil => exact absurd rfl h0
            | cons a t =>
              have ha : a = 48 := by simpa using h8.1
              subst ha
              rw [List.all_cons, oct_dec (show t.all (isD 8) = true from hq)]
              rfl
        · rw [nm_ok, h10']; rfl
theorem hexD_dig (i : Nat) (h : i < 16) : isD 16 (Own.hexD i) = true := hexD_fin (p := fun n => isD 16 (Own.hexD n) = true) (by decide +kernel) i h
theorem hx_all (n : Nat) (h : n < 65536) : (hx n).all (isD 16) = true := by
  unfold hx
  split
  · simp [hexD_dig _ (show n < 16 by assumption)]
  · split
    · simp [hexD_dig _ (show n / 16 < 16 by omega), hexD_dig _ (show n % 16 < 16 by omega)]
    · split
      · simp [hexD_dig _ (show n / 256 < 16 by omega), hexD_dig _ (show n / 16 % 16 < 16 by omega), hexD_dig _ (show n % 16 < 16 by omega)]
      · simp [hexD_dig _ (show n / 4096 < 16 by omega), hexD_dig _ (show n / 256 % 16 < 16 by omega), hexD_dig _ (show n / 16 % 16 < 16 by omega), hexD_dig _ (show n % 16 < 16 by omega)]
theorem hx_val (n : Nat) (h : n < 65536) : valL 16 (hx n) 0 = (n : Int) := by
  unfold hx
  split
  · simp only [valL, dv_hexD _ (show n < 16 by assumption)]; omega
  · split
    · simp only [valL, dv_hexD _ (show n / 16 < 16 by omega), dv_hexD _ (show n % 16 < 16 by omega)]; omega
    · split
      · simp only [valL, dv_hexD _ (show n / 256 < 16 by omega), dv_hexD _ (show n / 16 % 16 < 16 by omega), dv_hexD _ (show n % 16 < 16 by omega)]; omega
      · simp only [valL, dv_hexD _ (show n / 4096 < 16 by omega), dv_hexD _ (show n / 256 % 16 < 16 by omega), dv_hexD _ (show n / 16 % 16 < 16 by omega), dv_hexD _ (show n % 16 < 16 by omega)]; omega
theorem hI_ne (x : Int) : hI x ≠ [] := List.length_pos_iff.1 (hx_len x.toNat).2
theorem hI_all {x : Int} (h : 0 ≤ x ∧ x < 65536) : (hI x).all (isD 16) = true := hx_all _ (by omega)
theorem pieceV_hI {x : Int} (h : 0 ≤ x ∧ x < 65536) : pieceV (hI x) = some x := by
  unfold pieceV
  rw [if_pos ⟨hI_ne x, (hx_len x.toNat).1, hI_all h⟩]
  unfold hI
  rw [hx_val _ (by omega)]
  congr 1; omega
theorem spl_jn : ∀ (l : List (List UInt8)), l ≠ [] → (∀ x ∈ l, 58 ∉ x) → spl 58 (jn l) = l
  | [], h, _ => absurd rfl h
  | [x], _, h => by
    show spl 58 (x ++ []) = _
    rw [List.append_nil, spl_whole 58 x (h x (by simp))]
  | x :: y :: r, _, h => by
    have ih := spl_jn (y :: r) (by simp) (fun z hz => h z (List.mem_cons_of_mem _ hz))
    show spl 58 (x ++ 58 :: jn (y :: r)) = _
    rw [spl_cut 58 _ x (h x (by simp)), ih]
theorem piecesV_hI (last : Bool) : ∀ (p : List Int), okP p → piecesV last (p.map hI) = some p
  | [], _ => rfl
  | x :: r, h => by
    have hx := h x (by simp)
    have ih := piecesV_hI last r (fun z hz => h z (List.mem_cons_of_mem _ hz))
    rw [List.map_cons]
    unfold piecesV
    rw [if_neg (fun q => no_dot (hI_all hx) q.2.2), pieceV_hI hx, ih]
    rfl
theorem jn_ne {x : List UInt8} {r : List (List UInt8)} (h : x ≠ []) : jn (x :: r) ≠ [] := fun q => h (List.append_eq_nil_iff.1 q).1
theorem PL_hI (last : Bool) (p : List Int) (h : okP p) : PL last (jn (p.map hI)) = some p := by
  unfold PL
  cases p with
  | nil => rfl
  | cons x r =>
    rw [if_neg (by rw [List.map_cons]; exact jn_ne (hI_ne x)), spl_jn _ (by simp) (fun z hz => by
      obtain ⟨y, hy, rfl⟩ := List.mem_map.1 hz
      exact no_colon (hI_all (h y hy)))]
    exact piecesV_hI last _ h
theorem colons_skip : ∀ (x r : List UInt8), 58 ∉ x → colons (x ++ r) = (colons r).map (· + x.length)
  | [], r, _ => by simp
  | a :: x, r, h => by
    have ih := colons_skip x r (fun q => h (List.mem_cons_of_mem _ q))
    have ha : a ≠ 58 := fun q => h (by rw [q]; exact List.mem_cons_self)
    rw [List.cons_append]
    conv => lhs; unfold colons
    rw [if_neg (fun q => ha q.1), ih, Option.map_map]
    congr 1
theorem colons_one {y : List UInt8} (h : y.head? ≠ some 58) : colons (58 :: y) = (colons y).map (· + 1) := by
  conv => lhs; unfold colons
  rw [if_neg (fun q => h q.2)]
theorem colons_hd {x r : List UInt8} (h : x ≠ []) (h58 : 58 ∉ x) : (x ++ r).head? ≠ some 58 := by
  cases x with
  | nil => exact absurd rfl h
  | cons a t => intro q; exact h58 (by rw [show a = 58 from Option.some.inj q]; exact List.mem_cons_self)
theorem colons_tl : ∀ l : List (List UInt8), (∀ x ∈ l, x ≠ [] ∧ 58 ∉ x) → colons (tl l) = none
  | [], _ => rfl
  | x :: r, h => by
    have hx := h x (by simp)
    show colons (58 :: (x ++ tl r)) = none
    rw [colons_one (colons_hd hx.1 hx.2), colons_skip x _ hx.2, colons_tl r (fun z hz => h z (List.mem_cons_of_mem _ hz))]
    rfl
theorem colons_jn (l : List (List UInt8)) (h : ∀ x ∈ l, x ≠ [] ∧ 58 ∉ x) : colons (jn l) = none := by
  cases l with
  | nil => rfl
  | cons x r =>
    show colons (x ++ tl r) = none
    rw [colons_skip x _ (h x (by simp)).2, colons_tl r (fun z hz => h z (List.mem_cons_of_mem _ hz))]
    rfl
theorem colons_two (z : List UInt8) : colons (58 :: 58 :: z) = some 0 := by unfold colons; rw [if_pos ⟨rfl, rfl⟩]
theorem colons_tl2 (z : List UInt8) : ∀ l : List (List UInt8), (∀ x ∈ l, x ≠ [] ∧ 58 ∉ x) → colons (tl l ++ 58 :: 58 :: z) = some (tl l).length
  | [], _ => colons_two z
  | x :: r, h => by
    have hx := h x (by simp)
    have e : tl (x :: r) ++ 58 :: 58 :: z = 58 :: (x ++ (tl r ++ 58 :: 58 :: z)) := by simp [tl]
    rw [e, colons_one (colons_hd hx.1 hx.2), colons_skip x _ hx.2, colons_tl2 z r (fun y hy => h y (List.mem_cons_of_mem _ hy))]
    simp only [Option.map_some, tl, List.length_cons, List.length_append]
    congr 1; omega
theorem colons_jn2 (z : List UInt8) (l : List (List UInt8)) (h : ∀ x ∈ l, x ≠ [] ∧ 58 ∉ x) : colons (jn l ++ 58 :: 58 :: z) = some (jn l).length := by
  cases l with
  | nil => exact colons_two z
  | cons x r =>
    have e : jn (x :: r) ++ 58 :: 58 :: z = x ++ (tl r ++ 58 :: 58 :: z) := by simp [jn]
    rw [e, colons_skip x _ (h x (by simp)).2, colons_tl2 z r (fun y hy => h y (List.mem_cons_of_mem _ hy))]
    simp only [Option.map_some, jn, List.length_append]
    congr 1; omega
theorem hI_good {p : List Int} (h : okP p) : ∀ x ∈ p.map hI, x ≠ [] ∧ 58 ∉ x := fun x hx => by
  obtain ⟨y, hy, rfl⟩ := List.mem_map.1 hx
  exact ⟨hI_ne y, no_colon (hI_all (h y hy))⟩
theorem P6_two (a b : List Int) (ha : okP a) (hb : okP b) (hl : a.length + b.length ≤ 7) : P6 (jn (a.map hI) ++ ([58, 58] ++ jn (b.map hI))) = (a ++ (List.replicate (8 - a.length - b.length) 0 ++ b), 0) := by
  have h1 := jnI_len a (by omega)
  have h2 := jnI_len b (by omega)
  have hc := colons_jn2 (jn (b.map hI)) (a.map hI) (hI_good ha)
  have e : jn (a.map hI) ++ ([58, 58] ++ jn (b.map hI)) = jn (a.map hI) ++ 58 :: 58 :: jn (b.map hI) := rfl
  unfold P6
  rw [if_neg (by simp only [List.length_append, List.length_cons, List.length_nil]; omega), e, hc]
  show P6b (PL false _) (PL true _) = _
  have t1 : (jn (a.map hI) ++ 58 :: 58 :: jn (b.map hI)).take (jn (a.map hI)).length = jn (a.map hI) := by rw [List.take_append_of_le_length (Nat.le_refl _), List.take_length]
  have t2 : (jn (a.map hI) ++ 58 :: 58 :: jn (b.map hI)).drop ((jn (a.map hI)).length + 2) = jn (b.map hI) := by rw [List.drop_append, List.drop_of_length_le (by omega), Nat.add_sub_cancel_left]; rfl
  rw [t1, t2, PL_hI false a ha, PL_hI true b hb, P6b_some, if_pos hl]
theorem P6_one (p : List Int) (hp : okP p) (h8 : p.length = 8) : P6 (jn (p.map hI)) = (p, 0) := by
  have h1 := jnI_len p (by omega)
  unfold P6
  rw [if_neg (by omega), colons_jn _ (hI_good hp)]
  show P6a (PL true _) = _
  rw [PL_hI true p hp, P6a_some, if_pos h8]
theorem P6_pr6 (p : List Int) (hp : okP p) (h8 : p.length = 8) : P6 (pr6 p) = (p, 0) := by
  have hrng := zerosG_rng p 0 0 0 0 (by decide) (by decide) (by decide) (by decide) (by decide)
  have hz := zeros_run p h8
  unfold pr6
  by_cases h2 : (zerosG p 0 0 0 0).2 < 2
  · rw [if_pos h2]
    exact P6_one p hp h8
  · rw [if_neg h2]
    generalize (zerosG p 0 0 0 0).1 = A at *
    generalize (zerosG p 0 0 0 0).2 = M at *
    obtain ⟨a, rfl⟩ : ∃ a : Nat, A = (a : Int) := ⟨A.toNat, by omega⟩
    obtain ⟨m, rfl⟩ : ∃ m : Nat, M = (m : Int) := ⟨M.toNat, by omega⟩
    have et : ((a : Int) + (m : Int)).toNat = a + m := by omega
    rw [et, Int.toNat_natCast]
    have hla : (p.take a).length = a := by rw [List.length_take]; omega
    have hlb : (p.drop (a + m)).length = 8 - (a + m) := by rw [List.length_drop]; omega
    rw [P6_two _ _ (okP_take hp a) (okP_drop hp (a + m)) (by omega), hla, hlb]
    congr 1
    apply List.ext_getElem?
    intro i
    by_cases h1 : i < a
    · rw [List.getElem?_append_left (by omega), List.getElem?_take_of_lt h1]
    · rw [List.getElem?_append_right (by omega), hla]
      by_cases h3 : i < a + m
      · rw [List.getElem?_append_left (by rw [List.length_replicate]; omega), List.getElem?_replicate, if_pos (by omega)]
        exact (hz i (by omega) (by omega)).symm
      · rw [List.getElem?_append_right (by rw [List.length_replicate]; omega), List.length_replicate, List.getElem?_drop]
        congr 1; omega
theorem pr6_len (p : List Int) (h8 : p.length = 8) : (pr6 p).length ≤ 100 := by
  unfold pr6
  split
  · have := jnI_len p (by omega); omega
  · have := jnI_len (p.take (zerosG p 0 0 0 0).1.toNat) (by rw [List.length_take]; omega)
    have := jnI_len (p.drop ((zerosG p 0 0 0 0).1 + (zerosG p 0 0 0 0).2).toNat) (by rw [List.length_drop]; omega)
    simp only [List.length_append, List.length_cons, List.length_nil]; omega
theorem pr4_len (n : Int) : (pr4 n).length ≤ 100 := by
  unfold pr4
  have h0 := dec_len3 n 0; have h1 := dec_len3 n 1; have h2 := dec_len3 n 2; have h3 := dec_len3 n 3
  simp only [List.length_append, List.length_cons]; omega
theorem ends_pr4 (n : Int) : endsV (pr4 n) = true := by
  have D : ∀ i, 46 ∉ decL (q4 n i) := fun i => by rw [dec_bL]; exact no_dot (bL_all 10 (by omega) _ _ (Nat.lt_succ_self _))
  have hp : prts (pr4 n) = [decL (q4 n 0), decL (q4 n 1), decL (q4 n 2), decL (q4 n 3)] := prts4 (D 0) (D 1) (D 2) (D 3) (decL_ne _)
  have hl : ∀ (h : prts (pr4 n) ≠ []), (prts (pr4 n)).getLast h = decL (q4 n 3) := by rw [hp]; intro h; rfl
  unfold endsV
  rw [hl]
  unfold endX
  have hall : (decL (q4 n 3)).all (isD 10) = true := by rw [dec_bL]; exact bL_all 10 (by omega) _ _ (Nat.lt_succ_self _)
  rw [hall]
  cases hd : decL (q4 n 3) with
  | nil => exact absurd hd (decL_ne _)
  | cons a t => rfl
theorem vals_rng (cap : Int) (hc : 0 ≤ cap) : ∀ {L : List (List UInt8)} {n : List Int}, vals cap L = some n → ∀ v ∈ n, 0 ≤ v
  | [], n, h, v, hv => by obtain rfl := Option.some.inj h; cases hv
  | x :: r, n, h, v, hv => by
    unfold vals at h
    split at h
    · obtain ⟨u, hu, rfl⟩ := Option.map_eq_some_iff.1 h
      rcases List.mem_cons.1 hv with rfl | hv
      · exact (partV_rng cap hc x).1
      · exact vals_rng cap hc hu v hv
    · cases h
theorem four_rng (n : List Int) (h : ∀ v ∈ n, 0 ≤ v) : 0 ≤ (fourV n).1 ∧ (fourV n).1 < 4294967296 ∧ ((fourV n).2 = 0 ∨ (fourV n).1 = 0) := by
  match n, h with
  | [], _ => exact ⟨by decide, by decide, by decide⟩
  | [a], h =>
    have := h a (by simp)
    rw [four1]
    split
    · exact ⟨by omega, by omega, Or.inl rfl⟩
    · exact ⟨by decide, by decide, Or.inr rfl⟩
  | [a, b], h =>
    have := h a (by simp); have := h b (by simp)
    rw [four2]
    split
    · exact ⟨by simp only; omega, by simp only; omega, Or.inl rfl⟩
    · exact ⟨by decide, by decide, Or.inr rfl⟩
  | [a, b, c], h =>
    have := h a (by simp); have := h b (by simp); have := h c (by simp)
    rw [four3]
    split
    · exact ⟨by simp only; omega, by simp only; omega, Or.inl rfl⟩
    · exact ⟨by decide, by decide, Or.inr rfl⟩
  | [a, b, c, d], h =>
    have := h a (by simp); have := h b (by simp); have := h c (by simp); have := h d (by simp)
    rw [four4]
    split
    · exact ⟨by simp only; omega, by simp only; omega, Or.inl rfl⟩
    · exact ⟨by decide, by decide, Or.inr rfl⟩
  | a :: b :: c :: d :: e :: r, _ => exact ⟨by show (0 : Int) ≤ 0; decide, by show (0 : Int) < 4294967296; decide, Or.inr rfl⟩
theorem P4_rng (l : List UInt8) : 0 ≤ (P4 8589934592 l).1 ∧ (P4 8589934592 l).1 < 4294967296 ∧ ((P4 8589934592 l).2 = 0 ∨ (P4 8589934592 l).1 = 0) := by
  unfold P4
  split
  · exact ⟨by decide, by decide, Or.inr rfl⟩
  · split
    · exact ⟨by decide, by decide, Or.inr rfl⟩
    · cases hv : vals 8589934592 (prts l) with
      | none => exact ⟨by decide, by decide, Or.inr rfl⟩
      | some n => exact four_rng n (vals_rng _ (by omega) hv)
theorem zero8_ok : okP zero8 := fun x hx => by
  have : x = 0 := by
    unfold zero8 at hx
    simp at hx
    exact hx
  subst this; decide
theorem P6a_rng {p : Option (List Int)} (h : ∀ w, p = some w → okP w) : okP (P6a p).1 ∧ ((P6a p).2 = 0 ∨ (P6a p).1 = zero8) := by
  cases p with
  | none => exact ⟨zero8_ok, Or.inr rfl⟩
  | some v =>
    rw [P6a_some]
    split
    · exact ⟨h v rfl, Or.inl rfl⟩
    · exact ⟨zero8_ok, Or.inr rfl⟩
theorem P6b_rng {p q : Option (List Int)} (h : ∀ w, p = some w → okP w) (h2 : ∀ w, q = some w → okP w) : okP (P6b p q).1 ∧ ((P6b p q).2 = 0 ∨ (P6b p q).1 = zero8) := by
  cases p with
  | none => exact ⟨zero8_ok, Or.inr rfl⟩
  | some a =>
    cases q with
    | none => exact ⟨zero8_ok, Or.inr rfl⟩
    | some b =>
      rw [P6b_some]
      split
      · refine ⟨fun x hx => ?_, Or.inl rfl⟩
        rcases List.mem_append.1 hx with hx | hx
        · exact h a rfl x hx
        · rcases List.mem_append.1 hx with hx | hx
          · rw [(List.mem_replicate.1 hx).2]; decide
          · exact h2 b rfl x hx
      · exact ⟨zero8_ok, Or.inr rfl⟩
theorem P6_rng (l : List UInt8) : okP (P6 l).1 ∧ ((P6 l).2 = 0 ∨ (P6 l).1 = zero8) := by
  unfold P6
  split
  · exact ⟨zero8_ok, Or.inr rfl⟩
  · split
    · exact P6a_rng (fun w hw => (PL_rng hw).2)
    · exact P6b_rng (fun w hw => (PL_rng hw).2) (fun w hw => (PL_rng hw).2)
theorem Parse4_mk (l : List UInt8) (hl : l.length ≤ 4000) {v : Int × Int} (hv : P4 8589934592 l = v) : Ev (fun k => ip_Parse4.f k (mk l)) v := by
  have z := Parse4_prog (mk l) (by rw [size_B, B_mk]; omega)
  rw [B_mk, hv] at z
  exact z
theorem Parse6_mk (l : List UInt8) (hl : l.length ≤ 4000) {v : List Int × Int} (hv : P6 l = v) : Ev (fun k => ip_Parse6.g k (mk l)) v := by
  have z := Parse6_prog (mk l) (by rw [size_B, B_mk]; omega)
  rw [B_mk, hv] at z
  exact z
theorem mk_of {s : ByteArray} {l : List UInt8} (h : B s = l) : s = mk l := B_inj (by rw [h, B_mk])
theorem okP_set {p : List Int} (h : okP p) (i : Nat) : okP (p.set i 0) := fun x hx => by
  rcases List.mem_or_eq_of_mem_set hx with q | q
  · exact h x q
  · subst q; omega
theorem okP_zp {p : List Int} (h : okP p) (a : Nat) : ∀ n, okP (zp p a n)
  | 0 => h
  | n + 1 => okP_set (okP_zp h a n) (a + n)
theorem zp_zero (p : List Int) (a : Nat) : ∀ n i, a ≤ i → i < a + n → i < p.length → (zp p a n)[i]? = some 0
  | 0, i, h1, h2, _ => by omega
  | n + 1, i, h1, h2, h3 => by
    unfold zp
    by_cases e : a + n = i
    · subst e
      rw [List.getElem?_set_self (by rw [zp_len]; exact h3)]
    · rw [List.getElem?_set_ne e]
      exact zp_zero p a n i h1 (by omega) h3
theorem run_back (p : List Int) (h8 : p.length = 8) (a m : Nat) (ham : a + m ≤ 8) (hz : ∀ i, a ≤ i → i < a + m → p[i]? = some 0) : p.take a ++ (List.replicate (8 - (p.take a).length - (p.drop (a + m)).length) 0 ++ p.drop (a + m)) = p := by
  have hla : (p.take a).length = a := by rw [List.length_take]; omega
  have hlb : (p.drop (a + m)).length = 8 - (a + m) := by rw [List.length_drop]; omega
  rw [hla, hlb]
  apply List.ext_getElem?
  intro i
  by_cases h1 : i < a
  · rw [List.getElem?_append_left (by omega), List.getElem?_take_of_lt h1]
  · rw [List.getElem?_append_right (by omega), hla]
    by_cases h3 : i < a + m
    · rw [List.getElem?_append_left (by rw [List.length_replicate]; omega), List.getElem?_replicate, if_pos (by omega)]
      exact (hz i (by omega) (by omega)).symm
    · rw [List.getElem?_append_right (by rw [List.length_replicate]; omega), List.length_replicate, List.getElem?_drop]
      congr 1; omega
theorem jn_snoc2 (L : List (List UInt8)) (x : List UInt8) (h : L ≠ []) : jn (L ++ [x]) = jn L ++ 58 :: x := by
  cases L with
  | nil => exact absurd rfl h
  | cons y r =>
    show y ++ tl (r ++ [x]) = (y ++ tl r) ++ 58 :: x
    rw [tl_append, List.append_assoc]
    show _ = _
    simp [tl]
theorem jn_nil {L : List (List UInt8)} (h : ∀ x ∈ L, x ≠ []) (q : jn L = []) : L = [] := by
  cases L with
  | nil => rfl
  | cons y r => exact absurd (List.append_eq_nil_iff.1 q).1 (h y (by simp))
theorem B_hs (P : List Int) (i : Nat) (h : i < (P.map hI).length) : B ((P.map fun x => mk (hI x)).getD i ByteArray.empty) = (P.map hI)[i]'h := by
  have h' : i < P.length := by rwa [List.length_map] at h
  rw [List.getD_eq_getElem?_getD, List.getElem?_map, List.getElem?_eq_getElem h', List.getElem_map]
  rfl
theorem take_snoc {α : Type} (M : List α) (i : Nat) (h : i < M.length) : M.take (i + 1) = M.take i ++ [M[i]'h] := by
  rw [List.take_add_one, List.getElem?_eq_getElem h]; rfl
theorem B_rF (P : List Int) : ∀ i, i ≤ P.length → B (rF (fun i => (P.map fun x => mk (hI x)).getD i ByteArray.empty) i) = jn ((P.map hI).take i)
  | 0, _ => by rw [List.take_zero]; rfl
  | i + 1, h => by
    have ih := B_rF P i (by omega)
    have hm : i < (P.map hI).length := by rw [List.length_map]; omega
    unfold rF
    rw [B_append, B_hs P i hm, take_snoc _ i hm]
    by_cases h0 : 0 < i
    · rw [if_pos h0, B_append, ih, jn_snoc2 _ _ (by intro q; have := congrArg List.length q; rw [List.length_take, List.length_nil] at this; omega), List.append_assoc]
      rfl
    · obtain rfl : i = 0 := by omega
      rw [if_neg h0, ih, List.take_zero]
      simp [jn, tl]
theorem B_rA (P : List Int) (a : Nat) : ∀ i, i ≤ P.length → B (rA (fun i => (P.map fun x => mk (hI x)).getD i ByteArray.empty) a i) = jn ((P.map hI).take (min i a))
  | 0, _ => by rw [Nat.zero_min, List.take_zero]; rfl
  | i + 1, h => by
    have ih := B_rA P a i (by omega)
    have hm : i < (P.map hI).length := by rw [List.length_map]; omega
    unfold rA
    by_cases ha : i < a
    · rw [Nat.min_eq_left (by omega)] at ih
      rw [if_pos ha, Nat.min_eq_left (by omega), B_append, B_hs P i hm, take_snoc _ i hm]
      by_cases h0 : 0 < i
      · rw [if_pos h0, B_append, ih, jn_snoc2 _ _ (by intro q; have := congrArg List.length q; rw [List.length_take, List.length_nil] at this; omega), List.append_assoc]
        rfl
      · obtain rfl : i = 0 := by omega
        rw [if_neg h0, ih, List.take_zero]
        simp [jn, tl]
    · rw [if_neg ha, ih, Nat.min_eq_right (by omega), Nat.min_eq_right (by omega)]
theorem B_rB (P : List Int) (b : Nat) : ∀ i, i ≤ P.length → B (rB (fun i => (P.map fun x => mk (hI x)).getD i ByteArray.empty) b i) = jn (((P.map hI).take i).drop b)
  | 0, _ => by rw [List.take_zero, List.drop_nil]; rfl
  | i + 1, h => by
    have ih := B_rB P b i (by omega)
    have hm : i < (P.map hI).length := by rw [List.length_map]; omega
    have hl : ((P.map hI).take i).length = i := by rw [List.length_take]; omega
    unfold rB
    by_cases hb : b ≤ i
    · rw [if_pos hb, B_append, B_hs P i hm, take_snoc _ i hm, List.drop_append_of_le_length (by omega)]
      by_cases he : (rB (fun i => (P.map fun x => mk (hI x)).getD i ByteArray.empty) b i).toList = []
      · rw [if_pos he, ih]
        rw [toList_B, ih] at he
        have := jn_nil (fun x hx => by
          obtain ⟨y, _, rfl⟩ := List.mem_map.1 (List.mem_of_mem_take (List.mem_of_mem_drop hx))
          exact hI_ne y) he
        rw [this]
        simp [jn, tl]
      · rw [if_neg he, B_append, ih, jn_snoc2 _ _ (fun q => he (by rw [toList_B, ih, q]; rfl)), List.append_assoc]
        rfl
    · rw [if_neg hb, ih, List.drop_of_length_le (by omega), List.drop_of_length_le (by rw [List.length_take]; omega)]
theorem pieces_empty (last : Bool) : ∀ L : List (List UInt8), [] ∈ L → piecesV last L = none
  | [], h => by cases h
  | x :: r, h => by
    unfold piecesV
    by_cases hx : x = []
    · subst hx
      rw [if_neg (fun q => by cases q.2.2)]
      rfl
    · have hr : [] ∈ r := by
        rcases List.mem_cons.1 h with q | q
        · exact absurd q.symm hx
        · exact q
      rw [if_neg (fun q => by rw [q.2.1] at hr; cases hr), pieces_empty last r hr]
      cases pieceV x <;> rfl
theorem spl_mid : ∀ x : List UInt8, ([] : List UInt8) ∈ (spl 58 (x ++ [58, 58])).tail
  | [] => by simp [spl]
  | b :: t => by
    have ih := spl_mid t
    rw [List.cons_append]
    unfold spl
    by_cases hb : b = 58
    · rw [if_pos hb]; exact List.mem_of_mem_tail ih
    · rw [if_neg hb]; exact ih
theorem P6_twice (x : List UInt8) (h : x.length ≤ 100) : P6 (58 :: 58 :: (x ++ [58, 58])) = (zero8, 4) := by
  unfold P6
  rw [if_neg (by simp only [List.length_append, List.length_cons, List.length_nil]; omega), colons_two]
  show P6b (PL false []) (PL true (x ++ [58, 58])) = _
  have e : PL true (x ++ [58, 58]) = none := by
    unfold PL
    rw [if_neg (by simp), pieces_empty true _ (List.mem_of_mem_tail (spl_mid x))]
  rw [e]
  rfl
theorem okP_nine {P : List Int} (h : okP P) : okP (P ++ [0]) := fun x hx => by
  rcases List.mem_append.1 hx with q | q
  · exact h x q
  · rw [List.mem_singleton] at q; subst q; omega
theorem jnI_nine (P : List Int) (hl : P.length = 8) : (jn ((P ++ [0]).map hI)).length ≤ 50 := by
  have := jn_len ((P ++ [0]).map hI) (fun x hx => by obtain ⟨y, _, rfl⟩ := List.mem_map.1 hx; exact (hx_len _).1)
  rw [List.length_map, List.length_append, hl] at this
  simp only [List.length_cons, List.length_nil] at this
  omega
theorem P6_nine (P : List Int) (hP : okP P) (hl : P.length = 8) : P6 (jn ((P ++ [0]).map hI)) = (zero8, 4) := by
  have h1 := jnI_nine P hl
  unfold P6
  rw [if_neg (by omega), colons_jn _ (hI_good (okP_nine hP))]
  show P6a (PL true _) = _
  rw [PL_hI true _ (okP_nine hP), P6a_some, if_neg (by rw [List.length_append, hl]; decide)]
theorem hex_cut (d : Nat) (h : d < 16) : (⟨#[48, 49, 50, 51, 52, 53, 54, 55, 56, 57, 97, 98, 99, 100, 101, 102]⟩ : ByteArray).extract d (d + 1) = mk [Own.hexD d] :=
  hexD_fin (p := fun d => (⟨#[48, 49, 50, 51, 52, 53, 54, 55, 56, 57, 97, 98, 99, 100, 101, 102]⟩ : ByteArray).extract d (d + 1) = mk [Own.hexD d]) (by decide +kernel) d h
theorem hex_loop : ∀ (f n : Nat) (acc : List UInt8), 1 ≤ f → f ≤ 8 → n < 16 ^ f → (0 < n ∨ acc = []) → acc.length ≤ 100 - f → Ev (fun k => sprlaw7_hex.l0 k (⟨#[48, 49, 50, 51, 52, 53, 54, 55, 56, 57, 97, 98, 99, 100, 101, 102]⟩ : ByteArray) (mk acc) (n : Int)) (mk (Own.hexT f n acc))
  | 0, n, acc, h, _, _, _, _ => by omega
  | f + 1, n, acc, _, hf, hn, ho, ha => by
    have hn64 : n < 4294967296 := Nat.lt_of_lt_of_le hn (Nat.pow_le_pow_right (n := 16) (by omega) (show f + 1 ≤ 8 from hf))
    have em : Int.tmod (n : Int) 16 = ((n % 16 : Nat) : Int) := rfl
    have ed : Int.tdiv (n : Int) 16 = ((n / 16 : Nat) : Int) := rfl
    have ew : wrap64 (((n % 16 : Nat) : Int) + 1) = ((n % 16 + 1 : Nat) : Int) := by unfold wrap64; omega
    have ew2 : wrap64 ((n / 16 : Nat) : Int) = ((n / 16 : Nat) : Int) := by unfold wrap64; omega
    have hs : (mk [Own.hexD (n % 16)]).size + (mk acc).size ≤ 9223372036854775807 := by rw [size_B, size_B, B_mk, B_mk]; simp only [List.length_cons, List.length_nil]; omega
    have hD : (((n % 16 + 1 : Nat) : Int)) ≤ (((⟨#[48, 49, 50, 51, 52, 53, 54, 55, 56, 57, 97, 98, 99, 100, 101, 102]⟩ : ByteArray).size : Nat) : Int) := by show ((n % 16 + 1 : Nat) : Int) ≤ 16; omega
    have ee : mk [Own.hexD (n % 16)] ++ mk acc = mk (Own.hexD (n % 16) :: acc) := B_inj (by rw [B_append, B_mk, B_mk, B_mk]; rfl)
    have next : Ev (fun k => sprlaw7_hex.l0 k (⟨#[48, 49, 50, 51, 52, 53, 54, 55, 56, 57, 97, 98, 99, 100, 101, 102]⟩ : ByteArray) (mk (Own.hexD (n % 16) :: acc)) ((n / 16 : Nat) : Int)) (mk (Own.hexT (f + 1) n acc)) := by
      rw [Own.hexT.eq_2]
      by_cases hs16 : n < 16
      · rw [if_pos hs16, show n / 16 = 0 by omega, show n % 16 = n by omega]
        refine Ev.step (fun _ => sprlaw7_hex.l0.eq_2 ..) (Ev.neg (by omega) (Ev.neg (by rw [toList_B, B_mk]; simp) (Ev.now _)))
      · rw [if_neg hs16]
        cases f with
        | zero => exact absurd hn (by omega)
        | succ f => exact hex_loop (f + 1) (n / 16) _ (by omega) (by omega) (by rw [Nat.pow_succ] at hn; omega) (Or.inl (by omega)) (by rw [List.length_cons]; omega)
    refine Ev.step (fun _ => sprlaw7_hex.l0.eq_2 ..) ?_
    rw [em, ed, ew, ew2, Int.toNat_natCast, Int.toNat_natCast, hex_cut _ (Nat.mod_lt _ (by omega)), ee]
    by_cases h0 : 0 < n
    · exact Ev.pos (by omega) (Ev.pos (by omega) (Ev.pos (by omega) (Ev.pos hD (Ev.pos hs next))))
    · exact Ev.neg (by omega) (Ev.pos (by rw [toList_B, B_mk]; exact ho.resolve_left h0) (Ev.pos (by omega) (Ev.pos (by omega) (Ev.pos hD (Ev.pos hs next)))))
theorem hexT_cut {n : Nat} (h : n < 65536) : Own.hexT 8 n [] = hx n := by
  unfold hx
  by_cases h1 : n < 16
  · rw [if_pos h1, Own.hexT.eq_2, if_pos h1]
  · rw [if_neg h1, Own.hexT.eq_2, if_neg h1]
    by_cases h2 : n < 256
    · rw [if_pos h2, Own.hexT.eq_2, if_pos (by omega)]
    · rw [if_neg h2, Own.hexT.eq_2, if_neg (by omega)]
      by_cases h3 : n < 4096
      · rw [if_pos h3, Own.hexT.eq_2, if_pos (by omega)]; simp only [Nat.div_div_eq_div_mul, Nat.reduceMul]
      · rw [if_neg h3, Own.hexT.eq_2, if_neg (by omega), Own.hexT.eq_2, if_pos (by omega)]; simp only [Nat.div_div_eq_div_mul, Nat.reduceMul]
theorem hex_ok (x : Int) (h : 0 ≤ x ∧ x < 65536) : Ev (fun k => sprlaw7_hex.f k x) (mk (hI x)) := by
  obtain ⟨n, rfl⟩ : ∃ n : Nat, x = (n : Int) := ⟨x.toNat, by omega⟩
  have hw : wrap64 (n : Int) = (n : Int) := by unfold wrap64; omega
  have z := hex_loop 8 n [] (by omega) (by omega) (by omega) (Or.inr rfl) (by simp)
  rw [hexT_cut (by omega)] at z
  unfold sprlaw7_hex.f
  rw [hw]
  exact z
theorem hexs_ok : ∀ (P : List Int), okP P → Ev (fun k => hexs k P) (P.map fun x => mk (hI x))
  | [], _ => Ev.now _
  | x :: r, h => Ev.bind (hex_ok x (h x (by simp))) (Ev.bind (hexs_ok r (fun y hy => h y (List.mem_cons_of_mem _ hy))) (Ev.now _))
theorem IpRuns (p : List Int) (a n : Int) (h8 : p.length = 8) (hp : ∀ z ∈ p, (Lit.int .u16 z).wf = true) (ha : (Lit.int .i64 a).wf = true) (hn : (Lit.int .i64 n).wf = true) : ∃ k, sprlaw7_IpRuns.f k p a n = some true := by
  have hp' : okP p := fun x hx => wf_u16 (hp x hx)
  refine Ev.rounds (g := fun k => sprlaw7_IpRuns.f k p a n) ?_
  unfold sprlaw7_IpRuns.f
  by_cases hc : a < 0 ∨ n < 1 ∨ 8 < n ∨ 8 - n < a
  · exact Ev.pos hc (Ev.now _)
  · obtain ⟨a, rfl⟩ : ∃ m : Nat, a = (m : Int) := ⟨a.toNat, by omega⟩
    obtain ⟨n, rfl⟩ : ∃ m : Nat, n = (m : Int) := ⟨n.toNat, by omega⟩
    refine Ev.neg hc ?_
    simp only [Int.toNat_natCast]
    have hP := okP_zp hp' a n
    have hl : (zp p a n).length = 8 := by rw [zp_len, h8]
    have hz := zp_zero p a
    have hA := B_rA (zp p a n) a 8 (by omega)
    have hF := B_rF (zp p a n) 8 (by omega)
    have hB := B_rB (zp p a n) (a + n) 8 (by omega)
    have t8 : ((zp p a n).map hI).take 8 = (zp p a n).map hI := List.take_of_length_le (by rw [List.length_map, hl]; omega)
    rw [t8] at hF hB
    rw [Nat.min_eq_right (show a ≤ 8 by omega), ← List.map_take] at hA
    rw [← List.map_drop] at hB
    have n1 := jnI_len (zp p a n) (by omega)
    have n2 := jnI_len ((zp p a n).take a) (by rw [List.length_take]; omega)
    have n3 := jnI_len ((zp p a n).drop (a + n)) (by rw [List.length_drop]; omega)
    refine Ev.bind (hexs_ok (zp p a n) hP) ?_
    try dsimp only
    rw [mk_of hF, mk_of hA, mk_of hB]
    have c1 : mk (jn (((zp p a n).take a).map hI)) ++ ⟨#[58, 58]⟩ ++ mk (jn (((zp p a n).drop (a + n)).map hI)) = mk (jn (((zp p a n).take a).map hI) ++ ([58, 58] ++ jn (((zp p a n).drop (a + n)).map hI))) := B_inj (by simp only [B_append, B_mk, List.append_assoc]; rfl)
    have c2 : (⟨#[58, 58]⟩ : ByteArray) ++ mk (jn (((zp p a n).take a).map hI)) ++ ⟨#[58, 58]⟩ = mk (58 :: 58 :: (jn (((zp p a n).take a).map hI) ++ [58, 58])) := B_inj (by simp only [B_append, B_mk]; rfl)
    have c3 : mk (jn ((zp p a n).map hI)) ++ ⟨#[58, 48]⟩ = mk (jn (((zp p a n) ++ [0]).map hI)) := B_inj (by rw [B_append, B_mk, B_mk, List.map_append, List.map_cons, List.map_nil, jn_snoc2 _ _ (by intro q; have := congrArg List.length q; rw [List.length_map, hl] at this; cases this)]; rfl)
    have n4 := jnI_nine (zp p a n) hl
    have hT := okP_take hP a
    have hD := okP_drop hP (a + n)
    have v2 : P6 (jn (((zp p a n).take a).map hI) ++ ([58, 58] ++ jn (((zp p a n).drop (a + n)).map hI))) = ((zp p a n), 0) := by
      rw [P6_two _ _ hT hD (by rw [List.length_take, List.length_drop]; omega)]
      congr 1
      exact (run_back (zp p a n) hl a n (by omega) (fun i h1 h2 => hz n i h1 h2 (by omega)))
    rw [c1, c2, c3]
    refine Ev.bind (Parse6_mk _ (by omega) (P6_one (zp p a n) hP hl)) (Ev.bind (Parse6_mk _ (by simp only [List.length_append, List.length_cons, List.length_nil]; omega) v2) (Ev.bind (Parse6_mk _ (by simp only [List.length_append, List.length_cons, List.length_nil]; omega) (P6_twice _ (by omega))) (Ev.bind (Parse6_mk _ (by omega) (P6_nine (zp p a n) hP hl)) ?_)))
    exact Ev.pos ⟨h8, fun h hh => by obtain ⟨x, hx, rfl⟩ := List.mem_map.1 hh; rw [size_B, B_mk]; have := (hx_len x.toNat).1; show (hI x).length ≤ 100; unfold hI; omega, rfl, rfl, rfl, rfl⟩ (Ev.now _)

end Go.Proofs.YtldkhokpedfhdaaDoor.Pure
