/-
The law IpForms, over the Lean functions that its walk computes: one number written in digits of 10, of 16 and of 8, in one part or in four, is read as the same.
-/
import Derived.Test.YtldkhokpedfhdaaDoorQ5
set_option linter.unusedVariables false
set_option linter.unusedSimpArgs false
namespace Go.Proofs.YtldkhokpedfhdaaDoor.Pure
open Go.RowKit Go.Proofs.YtldkhokpedfhdaaDoor.Q Go.Proofs.YtldkhokpedfhdaaDoorW.PrintWords Go.Proofs.YtldkhokpedfhdaaDoorW.PrintLast
theorem wrap_id {x : Int} (h0 : -9223372036854775808 ≤ x) (h1 : x ≤ 9223372036854775807) : wrap64 x = x := by unfold wrap64; omega
theorem Ev.succ {α : Type} {g : Nat → Option α} {r : α} (h : Ev (fun k => g (k + 1)) r) : Ev g r := Ev.step (fun _ => rfl) h
theorem Ev.konst {α : Type} {o : Option α} {r : α} (h : o = some r) : Ev (fun _ => o) r := ⟨0, fun _ _ => h⟩
theorem Ev.at {α : Type} {g : Nat → Option α} {r : α} (K : Nat) (h : ∀ k, g (k + K) = some r) : Ev g r := ⟨K, fun n hn => by
  obtain ⟨m, rfl⟩ : ∃ m, n = m + K := ⟨n - K, by omega⟩
  exact h m⟩
theorem drop_cons {α : Type} {l : List α} {i : Nat} {c : α} {t : List α} (h : l.drop i = c :: t) : i < l.length ∧ l[i]? = some c ∧ l.drop (i + 1) = t := by
  have h1 : (l.drop i)[0]? = some c := by rw [h]; rfl
  rw [List.getElem?_drop] at h1
  simp only [Nat.add_zero] at h1
  refine ⟨(List.getElem?_eq_some_iff.1 h1).1, h1, ?_⟩
  rw [← List.drop_drop, h]; rfl
theorem drop_nil {α : Type} {l : List α} {i : Nat} (h : l.drop i = []) : l.length ≤ i := by
  simpa using h
theorem rd_of {l : List Int} {i : Nat} {c : Int} (h : l[i]? = some c) : rd l (i : Int) = c := by
  unfold rd; rw [Int.toNat_natCast, List.getD_eq_getElem?_getD, h]; rfl
theorem rdOf_of {α : Type} {d : α} {l : List α} {i : Nat} {c : α} (h : l[i]? = some c) : rdOf d l (i : Int) = c := by
  unfold rdOf; rw [Int.toNat_natCast, List.getD_eq_getElem?_getD, h]; rfl
theorem cast_succ (i : Nat) : ((i : Int) + 1) = ((i + 1 : Nat) : Int) := by omega
theorem Ev.tell {α : Type} {a r : α} (h : a = r) : Ev (fun _ => some a) r := h ▸ Ev.now a
theorem Ev.pos {α : Type} {c : Prop} [Decidable c] {A B : Nat → Option α} {r : α} (h : c) (k : Ev A r) : Ev (fun n => if c then A n else B n) r := Ev.congr (fun _ => if_pos h) k
theorem Ev.neg {α : Type} {c : Prop} [Decidable c] {A B : Nat → Option α} {r : α} (h : ¬ c) (k : Ev B r) : Ev (fun n => if c then A n else B n) r := Ev.congr (fun _ => if_neg h) k
theorem Ev.ite {α : Type} {c : Prop} [Decidable c] {A B : Nat → Option α} {r : α} (h : c → Ev A r) (k : ¬ c → Ev B r) : Ev (fun n => if c then A n else B n) r := by
  by_cases q : c
  · exact Ev.pos q (h q)
  · exact Ev.neg q (k q)
theorem Ev.bnd {α β : Type} {o : Option β} {a : β} {f : Nat → β → Option α} {r : α} (h : o = some a) (k : Ev (fun n => f n a) r) : Ev (fun n => o.bind (f n)) r := by
  subst h; exact k
/-- A text's bytes. -/
def B (s : ByteArray) : List UInt8 := s.data.toList
def mk (l : List UInt8) : ByteArray := ⟨l.toArray⟩
theorem B_mk (l : List UInt8) : B (mk l) = l := rfl
theorem mk_B (s : ByteArray) : mk (B s) = s := rfl
theorem B_inj {s t : ByteArray} (h : B s = B t) : s = t := by rw [← mk_B s, ← mk_B t, h]
theorem toList_B (s : ByteArray) : s.toList = B s := Lib.toList_data s
theorem size_B (s : ByteArray) : s.size = (B s).length := Lib.size_eq s
theorem B_extract (s : ByteArray) (a b : Nat) : B (s.extract a b) = ((B s).drop a).take (b - a) := Lib.extract_data s a b
theorem B_append (s t : ByteArray) : B (s ++ t) = B s ++ B t := by
  unfold B
  rw [ByteArray.data_append, Array.toList_append]
theorem B_to (s : ByteArray) (n : Nat) : B (s.extract 0 n) = (B s).take n := by rw [B_extract, List.drop_zero, Nat.sub_zero]
theorem B_from (s : ByteArray) (n : Nat) : B (s.extract n s.size) = (B s).drop n := by
  rw [B_extract, size_B]
  exact List.take_of_length_le (by rw [List.length_drop]; omega)
theorem bt_of {s : ByteArray} {i : Nat} {c : UInt8} (h : (B s)[i]? = some c) : bt s (i : Int) = (c.toNat : Int) := by
  unfold bt
  have hi : i < s.size := by rw [size_B]; exact (List.getElem?_eq_some_iff.1 h).1
  rw [Int.toNat_natCast, dif_pos hi]
  have : (s[i]'hi) = c := by
    have h1 : (B s)[i]? = some (s[i]'hi) := by
      unfold B
      rw [Array.getElem?_toList]
      exact Array.getElem?_eq_getElem _
    rw [h1] at h
    exact Option.some.inj h
  rw [this]
/-- The byte that a suffix begins with. -/
theorem bt_drop {s : ByteArray} {i : Nat} {c : UInt8} {t : List UInt8} (h : (B s).drop i = c :: t) : bt s (i : Int) = (c.toNat : Int) ∧ i < s.size ∧ (B s).drop (i + 1) = t := by
  obtain ⟨h1, h2, h3⟩ := drop_cons h
  exact ⟨bt_of h2, by rw [size_B]; exact h1, h3⟩
theorem end_drop {s : ByteArray} {i : Nat} (h : (B s).drop i = []) : s.size ≤ i := by rw [size_B]; exact drop_nil h
theorem u8_eq (c : UInt8) (n : Nat) (h : n < 256) : ((c.toNat : Int) = (n : Int)) ↔ c = UInt8.ofNat n := by
  constructor
  · intro e
    have e' : c.toNat = n := by omega
    rw [← e']; exact (UInt8.ofNat_toNat).symm
  · intro e
    rw [e, UInt8.toNat_ofNat']
    have : n % 2 ^ 8 = n := Nat.mod_eq_of_lt h
    omega
theorem u8_lt (c : UInt8) : (c.toNat : Int) < 256 ∧ 0 ≤ (c.toNat : Int) := by
  have := UInt8.toNat_lt c
  omega
/-- A text cut at a byte. -/
def spl (c : UInt8) : List UInt8 → List (List UInt8)
  | [] => [[]]
  | b :: t => if b = c then [] :: spl c t else (b :: (spl c t).headD []) :: (spl c t).tail
theorem spl_ne (c : UInt8) (l : List UInt8) : spl c l ≠ [] := by
  cases l with
  | nil => simp [spl]
  | cons b t => unfold spl; split <;> simp
theorem spl_whole (c : UInt8) : ∀ p : List UInt8, c ∉ p → spl c p = [p]
  | [], _ => rfl
  | b :: t, h => by
    have hb : b ≠ c := fun e => h (by simp [e])
    rw [spl, if_neg hb, spl_whole c t (fun e => h (by simp [e]))]; rfl
theorem spl_cut (c : UInt8) (r : List UInt8) : ∀ p : List UInt8, c ∉ p → spl c (p ++ c :: r) = p :: spl c r
  | [], _ => by simp [spl]
  | b :: t, h => by
    have hb : b ≠ c := fun e => h (by simp [e])
    rw [List.cons_append, spl, if_neg hb, spl_cut c r t (fun e => h (by simp [e]))]; rfl
theorem spl_one (c : UInt8) : ∀ l p : List UInt8, spl c l = [p] → l = p ∧ c ∉ p
  | [], p, h => by simp [spl] at h; subst h; simp
  | b :: t, p, h => by
    unfold spl at h
    split at h
    · injection h with h1 h2; exact absurd h2 (spl_ne c t)
    · rename_i hb
      injection h with h1 h2
      have ht : spl c t = [(spl c t).headD []] := by
        cases hs : spl c t with
        | nil => exact absurd hs (spl_ne c t)
        | cons a r => rw [hs] at h2; simp at h2; rw [h2]; rfl
      obtain ⟨e1, e2⟩ := spl_one c t _ ht
      rw [← h1]
      refine ⟨by rw [← e1], ?_⟩
      intro e
      rcases List.mem_cons.1 e with q | q
      · exact hb q.symm
      · exact e2 q
theorem spl_more (c : UInt8) : ∀ l p q r, spl c l = p :: q :: r → ∃ m, l = p ++ c :: m ∧ c ∉ p ∧ spl c m = q :: r
  | [], p, q, r, h => by simp [spl] at h
  | b :: t, p, q, r, h => by
    unfold spl at h
    split at h
    · rename_i hb
      injection h with h1 h2
      exact ⟨t, by rw [← h1, hb]; rfl, by rw [← h1]; simp, h2⟩
    · rename_i hb
      injection h with h1 h2
      have ht : spl c t = (spl c t).headD [] :: q :: r := by
        cases hs : spl c t with
        | nil => exact absurd hs (spl_ne c t)
        | cons a r' => rw [hs] at h2; simp at h2; rw [h2]; rfl
      obtain ⟨m, e1, e2, e3⟩ := spl_more c t _ q r ht
      refine ⟨m, by rw [← h1, List.cons_append, ← e1], ?_, e3⟩
      rw [← h1]
      intro e
      rcases List.mem_cons.1 e with q | q
      · exact hb q.symm
      · exact e2 q
theorem spl3 {c : UInt8} {l p0 p1 p2 : List UInt8} (h : spl c l = [p0, p1, p2]) : l = p0 ++ c :: (p1 ++ c :: p2) ∧ c ∉ p0 ∧ c ∉ p1 ∧ c ∉ p2 := by
  obtain ⟨m, rfl, h0, h⟩ := spl_more c _ _ _ _ h
  obtain ⟨m, rfl, h1, h⟩ := spl_more c _ _ _ _ h
  obtain ⟨rfl, h2⟩ := spl_one c _ _ h
  exact ⟨rfl, h0, h1, h2⟩
theorem spl3' {c : UInt8} {p0 p1 p2 : List UInt8} (h0 : c ∉ p0) (h1 : c ∉ p1) (h2 : c ∉ p2) : spl c (p0 ++ c :: (p1 ++ c :: p2)) = [p0, p1, p2] := by
  rw [spl_cut c _ _ h0, spl_cut c _ _ h1, spl_whole c _ h2]
theorem spl4 {c : UInt8} {l p0 p1 p2 p3 : List UInt8} (h : spl c l = [p0, p1, p2, p3]) : l = p0 ++ c :: (p1 ++ c :: (p2 ++ c :: p3)) ∧ c ∉ p0 ∧ c ∉ p1 ∧ c ∉ p2 ∧ c ∉ p3 := by
  obtain ⟨m, rfl, h0, h⟩ := spl_more c _ _ _ _ h
  obtain ⟨rfl, q⟩ := spl3 h
  exact ⟨rfl, h0, q⟩
theorem spl4' {c : UInt8} {p0 p1 p2 p3 : List UInt8} (h0 : c ∉ p0) (h1 : c ∉ p1) (h2 : c ∉ p2) (h3 : c ∉ p3) : spl c (p0 ++ c :: (p1 ++ c :: (p2 ++ c :: p3))) = [p0, p1, p2, p3] := by
  rw [spl_cut c _ _ h0, spl3' h1 h2 h3]
theorem spl6 {c : UInt8} {l p0 p1 p2 p3 p4 p5 : List UInt8} (h : spl c l = [p0, p1, p2, p3, p4, p5]) : l = p0 ++ c :: (p1 ++ c :: (p2 ++ c :: (p3 ++ c :: (p4 ++ c :: p5)))) ∧ c ∉ p0 ∧ c ∉ p1 ∧ c ∉ p2 ∧ c ∉ p3 ∧ c ∉ p4 ∧ c ∉ p5 := by
  obtain ⟨m, rfl, h0, h⟩ := spl_more c _ _ _ _ h
  obtain ⟨m, rfl, h1, h⟩ := spl_more c _ _ _ _ h
  obtain ⟨rfl, q⟩ := spl4 h
  exact ⟨rfl, h0, h1, q⟩
theorem spl6' {c : UInt8} {p0 p1 p2 p3 p4 p5 : List UInt8} (h0 : c ∉ p0) (h1 : c ∉ p1) (h2 : c ∉ p2) (h3 : c ∉ p3) (h4 : c ∉ p4) (h5 : c ∉ p5) : spl c (p0 ++ c :: (p1 ++ c :: (p2 ++ c :: (p3 ++ c :: (p4 ++ c :: p5))))) = [p0, p1, p2, p3, p4, p5] := by
  rw [spl_cut c _ _ h0, spl_cut c _ _ h1, spl4' h2 h3 h4 h5]
theorem spl_hd (c : UInt8) : ∀ (p r : List UInt8), c ∉ p → (spl c (p ++ c :: r)).head? = some p := fun p r h => by rw [spl_cut c r p h]; rfl
theorem splK_cons (c b : UInt8) (h : b ≠ c) : ∀ (k : Nat) (t : List UInt8), Lib.splitK [c] 0 k (b :: t) = (b :: (Lib.splitK [c] 0 k t).headD []) :: (Lib.splitK [c] 0 k t).tail
  | 0, t => rfl
  | k + 1, t => by
    have hp : ([c] : List UInt8).isPrefixOf (b :: t) = false := by simp [List.isPrefixOf, Ne.symm h]
    have hix : Lib.index (b :: t) [c] = if Lib.index t [c] == -1 then -1 else Lib.index t [c] + 1 := by rw [Lib.index, hp]; simp
    have hge := Lib.index_ge t [c]
    unfold Lib.splitK
    rw [hix]
    by_cases hm : Lib.index t [c] = -1
    · simp [hm]
    · have e1 : (Lib.index t [c] == -1) = false := by simpa using hm
      have e2 : (Lib.index t [c] + 1 == -1) = false := by simp; omega
      obtain ⟨j, hj⟩ : ∃ j : Nat, Lib.index t [c] = j := ⟨(Lib.index t [c]).toNat, by omega⟩
      rw [e1]
      simp only [Bool.false_eq_true, if_false]
      rw [e2]
      simp only [Bool.false_eq_true, if_false, hj, List.headD_cons, List.tail_cons, List.length_singleton]
      have e3 : ((j : Int) + 1).toNat = j + 1 := by omega
      rw [e3, Int.toNat_natCast]
      rfl
theorem splK_eq (c : UInt8) : ∀ l : List UInt8, Lib.splitK [c] 0 (Lib.count l [c]) l = spl c l
  | [] => by
    have : Lib.index [] [c] = -1 := rfl
    rw [Lib.count_miss this]; rfl
  | b :: t => by
    by_cases h : b = c
    · subst h
      have hix : Lib.index (b :: t) [b] = 0 := by rw [Lib.index]; simp [List.isPrefixOf]
      rw [Lib.count_cons_eq, Nat.add_comm, Lib.splitK, hix, spl, if_pos rfl, ← splK_eq b t]
      rfl
    · rw [Lib.count_cons_ne b c t h, splK_cons c b h, splK_eq c t, spl, if_neg h]
theorem splB_eq (c : UInt8) (s : ByteArray) : Lib.splitB (⟨#[c]⟩ : ByteArray) 0 (Lib.countB s (⟨#[c]⟩ : ByteArray)) s = (spl c (B s)).map mk := by
  have h := Lib.splitB_data (⟨#[c]⟩ : ByteArray) 0 (Lib.countB s (⟨#[c]⟩ : ByteArray)) s
  have e : Lib.splitK [c] 0 (Lib.countB s (⟨#[c]⟩ : ByteArray)) s.data.toList = spl c (B s) := splK_eq c (B s)
  rw [← e]
  have h2 : ∀ l : List ByteArray, l = (l.map (·.data.toList)).map mk := fun l => by
    rw [List.map_map]; simp [Function.comp_def, mk]
  rw [h2 (Lib.splitB _ _ _ _), h]
theorem Split_ok (s : ByteArray) (c : UInt8) (hs : s.size < 4294967281) : strings_Split.f s (⟨#[c]⟩ : ByteArray) = some ((spl c (B s)).map mk) := by
  unfold strings_Split.f
  rw [if_pos hs, if_pos (show (⟨#[c]⟩ : ByteArray).size = 1 from rfl), splB_eq]
theorem spl_hdtl' (c : UInt8) (l : List UInt8) : spl c l = (spl c l).headD [] :: (spl c l).tail := by
  cases h : spl c l with
  | nil => exact absurd h (spl_ne c l)
  | cons p r => rfl
/-- A text cut at its points. -/
def prts (l : List UInt8) : List (List UInt8) := if 1 < (spl 46 l).length ∧ (spl 46 l).getLast? = some [] then (spl 46 l).dropLast else spl 46 l
theorem prts_ne (l : List UInt8) : prts l ≠ [] := by
  unfold prts
  split
  · rename_i h
    intro q
    have := congrArg List.length q
    rw [List.length_dropLast, List.length_nil] at this
    omega
  · exact spl_ne 46 l
theorem parts_if {k : Nat} {p : List (List UInt8)} (hne : p ≠ []) (hl : p.length ≤ 1000000001) :
    (if (wrap64 (((p.map mk).length : Int) - 1)) > 0 then (if 0 ≤ (wrap64 (((p.map mk).length : Int) - 1)) then (if (wrap64 (((p.map mk).length : Int) - 1)) < ((p.map mk).length : Int) then (if (rdOf ByteArray.empty (p.map mk) (wrap64 (((p.map mk).length : Int) - 1))).toList = ([] : List UInt8) then (if (wrap64 (((p.map mk).length : Int) - 1)) ≤ ((p.map mk).length : Int) then (some ((p.map mk).take ((wrap64 (((p.map mk).length : Int) - 1)) : Int).toNat)) else (none)) else (some (p.map mk))) else (none)) else (none)) else (some (p.map mk)))
    = some ((if 1 < p.length ∧ p.getLast? = some [] then p.dropLast else p).map mk) := by
  have hpos : 0 < p.length := List.length_pos_iff.2 hne
  rw [List.length_map, wrap_id (by omega) (by omega)]
  by_cases h1 : 1 < p.length
  · rw [if_pos (by omega), if_pos (by omega), if_pos (by omega)]
    have e : (p.length : Int) - 1 = ((p.length - 1 : Nat) : Int) := by omega
    have hg : (p.map mk)[p.length - 1]? = some (mk (p.getLast hne)) := by
      rw [List.getElem?_map, ← List.getLast?_eq_getElem?, List.getLast?_eq_some_getLast hne]; rfl
    rw [e, rdOf_of hg, toList_B, B_mk, if_pos (show ((p.length - 1 : Nat) : Int) ≤ (p.length : Int) by omega), Int.toNat_natCast]
    by_cases h2 : p.getLast hne = []
    · rw [if_pos h2, if_pos ⟨h1, by rw [List.getLast?_eq_some_getLast hne, h2]⟩, List.dropLast_eq_take, List.map_take]
    · rw [if_neg h2, if_neg (fun q => h2 (by have z := q.2; rw [List.getLast?_eq_some_getLast hne] at z; exact Option.some.inj z))]
  · rw [if_neg (by omega), if_neg (fun q => h1 q.1)]
theorem spl_len (c : UInt8) : ∀ l : List UInt8, (spl c l).length ≤ l.length + 1
  | [] => Nat.le_refl _
  | b :: t => by
    have ih := spl_len c t
    unfold spl
    split
    · rw [List.length_cons, List.length_cons]; omega
    · rw [List.length_cons, List.length_cons, List.length_tail]; omega
theorem parts_prog (s : ByteArray) (hs : s.size ≤ 1000000000) : ip_parts.f s = some ((prts (B s)).map mk) := by
  unfold ip_parts.f
  rw [Split_ok s 46 (by omega), Option.bind_some]
  have hz := size_B s
  exact parts_if (k := 0) (spl_ne 46 (B s)) (Nat.le_trans (spl_len 46 (B s)) (by omega))
/-- A digit's value; -1: it is none. -/
def dv (c : UInt8) : Int := if 48 ≤ c.toNat ∧ c.toNat ≤ 57 then (c.toNat : Int) - 48 else if 97 ≤ c.toNat ∧ c.toNat ≤ 102 then (c.toNat : Int) - 87 else if 65 ≤ c.toNat ∧ c.toNat ≤ 70 then (c.toNat : Int) - 55 else -1
def isD (b : Int) (c : UInt8) : Bool := decide (0 ≤ dv c) && decide (dv c < b)
theorem u8_all {p : UInt8 → Prop} (h : ∀ n : Fin 256, p (UInt8.ofNat n.val)) (c : UInt8) : p c := by
  have := h ⟨c.toNat, UInt8.toNat_lt c⟩
  rwa [UInt8.ofNat_toNat] at this
set_option maxRecDepth 100000 in
theorem digit_prog (c : UInt8) : ip_digit.f (c.toNat : Int) = some (dv c) := u8_all (p := fun c => ip_digit.f (c.toNat : Int) = some (dv c)) (by decide +kernel) c
theorem dv_rng (c : UInt8) : -1 ≤ dv c ∧ dv c < 16 := by
  unfold dv
  split
  · omega
  · split
    · omega
    · split <;> omega
/-- A number's value, saturating. -/
def numL (cap b : Int) : List UInt8 → Int → Int
  | [], n => n
  | c :: t, n => numL cap b t (mn (n * b + dv c) cap)
def valL (b : Int) : List UInt8 → Int → Int
  | [], n => n
  | c :: t, n => valL b t (n * b + dv c)
def nm (cap b : Int) (l : List UInt8) : Int × Bool := if l.all (isD b) = true then (numL cap b l 0, true) else (0, false)
theorem isD_iff {b : Int} {c : UInt8} : isD b c = true ↔ 0 ≤ dv c ∧ dv c < b := by simp [isD]
theorem numL_val (cap b : Int) (hb : b = 8 ∨ b = 10 ∨ b = 16) (hc : 0 ≤ cap) : ∀ (l : List UInt8) (n : Int), l.all (isD b) = true → 0 ≤ n → numL cap b l (mn n cap) = mn (valL b l n) cap
  | [], n, _, _ => rfl
  | c :: t, n, h, h0 => by
    rw [List.all_cons, Bool.and_eq_true, isD_iff] at h
    obtain ⟨⟨h1, h2⟩, h3⟩ := h
    unfold numL valL
    have e : mn ((mn n cap) * b + dv c) cap = mn (n * b + dv c) cap := by
      unfold mn
      rcases hb with rfl | rfl | rfl <;> (repeat' split) <;> omega
    have e2 : 0 ≤ n * b + dv c := by rcases hb with rfl | rfl | rfl <;> omega
    rw [e]
    exact numL_val cap b hb hc t _ h3 e2
theorem valL_ge (b : Int) (hb : b = 8 ∨ b = 10 ∨ b = 16) : ∀ (l : List UInt8) (n : Int), l.all (isD b) = true → 0 ≤ n → 0 ≤ valL b l n
  | [], n, _, h => h
  | c :: t, n, h, h0 => by
    rw [List.all_cons, Bool.and_eq_true, isD_iff] at h
    exact valL_ge b hb t _ h.2 (by rcases hb with rfl | rfl | rfl <;> omega)
/-- What is told of a part's value: it may be cut at either ceiling. -/
theorem nm_caps {b : Int} (hb : b = 8 ∨ b = 10 ∨ b = 16) (l : List UInt8) : ∃ v : Int, 0 ≤ v ∧ ∀ cap, 0 ≤ cap → nm cap b l = if l.all (isD b) = true then (mn v cap, true) else (0, false) := by
  by_cases h : l.all (isD b) = true
  · refine ⟨valL b l 0, valL_ge b hb l 0 h (by omega), fun cap hc => ?_⟩
    have z := numL_val cap b hb hc l 0 h (by omega)
    rw [show mn 0 cap = 0 by unfold mn; split <;> omega] at z
    unfold nm
    rw [if_pos h, if_pos h, z]
  · exact ⟨0, by omega, fun cap hc => by unfold nm; rw [if_neg h, if_neg h]⟩
theorem nm_val {cap b : Int} (hb : b = 8 ∨ b = 10 ∨ b = 16) (hc : 0 ≤ cap) {l : List UInt8} (h : l.all (isD b) = true) : nm cap b l = (mn (valL b l 0) cap, true) := by
  have z := numL_val cap b hb hc l 0 h (by omega)
  rw [show mn 0 cap = 0 by unfold mn; split <;> omega] at z
  unfold nm
  rw [if_pos h, z]
theorem nm_no {cap b : Int} {l : List UInt8} (h : ¬ l.all (isD b) = true) : nm cap b l = (0, false) := by unfold nm; rw [if_neg h]
theorem mn_id {v c : Int} (h : v ≤ c) : mn v c = v := by unfold mn; split <;> omega
theorem number_loop (b : Int) (hb : b = 8 ∨ b = 10 ∨ b = 16) (s : ByteArray) (hs : s.size ≤ 1000000000) : ∀ (t : List UInt8) (i : Nat) (n : Int), (B s).drop i = t → i ≤ s.size → 0 ≤ n → n ≤ 8589934592 → Ev (fun k => ip_number.l0 k s b n (s.size : Int) (i : Int)) (if t.all (isD b) = true then (numL 8589934592 b t n, true) else (0, false))
  | [], i, n, h, hi, h0, h1 => by
    have := end_drop h
    exact Ev.step (fun _ => ip_number.l0.eq_2 ..) (Ev.neg (by omega) (Ev.now _))
  | c :: t, i, n, h, hi, h0, h1 => by
    obtain ⟨e1, e2, e3⟩ := bt_drop h
    have hd := dv_rng c
    refine Ev.step (fun _ => ip_number.l0.eq_2 ..) (Ev.pos (by omega) (Ev.pos (by omega) (Ev.pos (by omega) (Ev.bnd (by rw [e1]; exact digit_prog c) ?_))))
    by_cases hD : isD b c = true
    · have hD' := isD_iff.1 hD
      have ew : wrap64 (wrap64 (n * b) + dv c) = n * b + dv c := by
        rcases hb with rfl | rfl | rfl <;> (rw [wrap_id (x := n * _) (by omega) (by omega), wrap_id (by omega) (by omega)])
      have hr : 0 ≤ mn (n * b + dv c) 8589934592 ∧ mn (n * b + dv c) 8589934592 ≤ 8589934592 := by
        unfold mn
        rcases hb with rfl | rfl | rfl <;> (split <;> omega)
      have ih := number_loop b hb s hs t (i + 1) (mn (n * b + dv c) 8589934592) e3 (by omega) hr.1 hr.2
      rw [List.all_cons, hD, Bool.true_and]
      refine Ev.neg (by omega) (Ev.neg (by omega) ?_)
      rw [ew, wrap_id (x := (i : Int) + 1) (by omega) (by omega), cast_succ]
      exact ih
    · rw [List.all_cons, show isD b c = false by simpa using hD, Bool.false_and, if_neg (by simp)]
      by_cases h2 : dv c < 0
      · exact Ev.pos h2 (Ev.now _)
      · exact Ev.neg h2 (Ev.pos (by rw [isD_iff] at hD; omega) (Ev.now _))
theorem number_prog (b : Int) (hb : b = 8 ∨ b = 10 ∨ b = 16) (s : ByteArray) (hs : s.size ≤ 1000000000) : Ev (fun k => ip_number.f k s b) (nm 8589934592 b (B s)) := number_loop b hb s hs (B s) 0 0 rfl (by omega) (by omega) (by omega)
/-- Does a part begin with 0x? -/
def hexP : List UInt8 → Bool
  | a :: c :: _ => a == 48 && (c == 120 || c == 88)
  | _ => false
/-- A part's number. -/
def partV (cap : Int) (l : List UInt8) : Int × Bool :=
  if l = [] then (0, false) else if hexP l = true then nm cap 16 (l.drop 2) else if l.head? = some 48 ∧ 1 < l.length then nm cap 8 (l.drop 1) else nm cap 10 l
theorem toList_nil {s : ByteArray} : s.toList = ([] : List UInt8) ↔ B s = [] := by rw [toList_B]
theorem prefix2 (s : ByteArray) (x : UInt8) (y : UInt8) : strings_HasPrefix.f s (⟨#[x, y]⟩ : ByteArray) = some (match B s with | a :: c :: _ => a == x && c == y | _ => false) := by
  unfold strings_HasPrefix.f stringslite_HasPrefix.f
  have h2 : (⟨#[x, y]⟩ : ByteArray).size = 2 := rfl
  rw [h2]
  have hz := size_B s
  by_cases h : (s.size : Int) ≥ ((2 : Nat) : Int)
  · rw [if_pos h, if_pos (by omega), if_pos (by omega)]
    rw [Option.bind_some, toList_B, toList_B, Int.toNat_natCast, B_to]
    congr 1
    show (List.take 2 (B s) == [x, y]) = _
    match hB : B s with
    | [] => rw [hB, List.length_nil] at hz; omega
    | [a] => rw [hB, List.length_singleton] at hz; omega
    | a :: c :: r => simp
  · rw [if_neg h, Option.bind_some]
    congr 1
    match hB : B s with
    | [] => rfl
    | [a] => rfl
    | a :: c :: r => rw [hB, List.length_cons, List.length_cons] at hz; omega
theorem pair_eta {α β : Type} (p : α × β) : (p.1, p.2) = p := rfl
theorem part_prog (s : ByteArray) (hs : s.size ≤ 1000000000) : Ev (fun k => ip_part.f k s) (partV 8589934592 (B s)) := by
  unfold partV
  by_cases h0 : B s = []
  · rw [if_pos h0]
    exact Ev.pos (toList_nil.2 h0) (Ev.now _)
  · rw [if_neg h0]
    have hz := size_B s
    refine Ev.neg (fun q => h0 (toList_nil.1 q)) (Ev.bnd (prefix2 s 48 120) ?_)
    have H2 : ∀ r : Int × Bool, hexP (B s) = true → r = nm 8589934592 16 ((B s).drop 2) → Ev (fun k => ip_part.j0 k s true) r := fun r hh hr => by
      have hl : 2 ≤ s.size := by
        match hB : B s with
        | [] => rw [hB] at hh; cases hh
        | [a] => rw [hB] at hh; cases hh
        | a :: c :: t => rw [hB, List.length_cons, List.length_cons] at hz; omega
      refine Ev.step (fun _ => ip_part.j0.eq_2 ..) (Ev.pos rfl (Ev.pos (by omega) ?_))
      refine Ev.bind (number_prog 16 (by omega) (s.extract 2 s.size) ?_) ?_
      · rw [size_B, B_from, List.length_drop]; omega
      · rw [B_from, pair_eta, ← hr]; exact Ev.now _
    have H0 : hexP (B s) = false → Ev (fun k => ip_part.j0 k s false) (if (B s).head? = some 48 ∧ 1 < (B s).length then nm 8589934592 8 ((B s).drop 1) else nm 8589934592 10 (B s)) := fun hh => by
      match hB : B s with
      | [] => exact absurd hB h0
      | a :: t =>
        have hb0 : bt s 0 = (a.toNat : Int) := bt_of (s := s) (i := 0) (by rw [hB]; rfl)
        rw [hB, List.length_cons] at hz
        have j1 : ∀ b : Bool, b = false → Ev (fun k => ip_part.j1 k s b) (nm 8589934592 10 (B s)) := fun b hb => by
          subst hb
          refine Ev.step (fun _ => ip_part.j1.eq_2 ..) (Ev.neg (by decide) (Ev.bind (number_prog 10 (by omega) s hs) ?_))
          exact Ev.now _
        refine Ev.step (fun _ => ip_part.j0.eq_2 ..) (Ev.neg (by decide) (Ev.pos (by omega) ?_))
        by_cases ha : a = 48
        · subst ha
          refine Ev.pos (by rw [hb0]; rfl) ?_
          by_cases hl : 1 < (48 :: t).length
          · rw [if_pos ⟨rfl, hl⟩]
            rw [List.length_cons] at hl
            refine Ev.congr (fun k => by rw [show decide ((s.size : Int) > 1) = true from decide_eq_true (by omega)]) ?_
            refine Ev.step (fun _ => ip_part.j1.eq_2 ..) (Ev.pos rfl (Ev.pos (by omega) ?_))
            refine Ev.bind (number_prog 8 (by omega) (s.extract 1 s.size) ?_) ?_
            · rw [size_B, B_from, List.length_drop, ← size_B]; omega
            · rw [B_from, hB, pair_eta]; exact Ev.now _
          · rw [if_neg (fun q => hl q.2), ← hB]
            rw [List.length_cons] at hl
            exact j1 _ (decide_eq_false (by omega))
        · rw [if_neg (fun q => ha (by simpa using q.1)), ← hB]
          exact Ev.neg (fun q => ha ((u8_eq a 48 (by omega)).1 (by rw [← hb0]; exact q))) (j1 _ rfl)
    match hB : B s with
    | [] => exact absurd hB h0
    | [a] =>
      refine Ev.neg (fun q => by cases q) (Ev.bnd (prefix2 s 48 88) ?_)
      rw [hB]
      have z := H0 (by rw [hB]; rfl)
      rw [hB] at z
      exact z
    | a :: c :: t =>
      by_cases hx : hexP (a :: c :: t) = true
      · rw [if_pos hx]
        have hh : hexP (B s) = true := by rw [hB]; exact hx
        by_cases hc : (a == 48 && c == 120) = true
        · refine Ev.pos hc (H2 _ hh (by rw [hB]))
        · refine Ev.neg hc (Ev.bnd (prefix2 s 48 88) ?_)
          rw [hB]
          have e : (a == 48 && c == 88) = true := by
            unfold hexP at hx
            simp only [Bool.and_eq_true, Bool.or_eq_true] at hx hc ⊢
            rcases hx with ⟨h1, h2 | h2⟩
            · exact absurd ⟨h1, h2⟩ hc
            · exact ⟨h1, h2⟩
          show Ev (fun n => ip_part.j0 n s (a == 48 && c == 88)) _
          rw [e]
          exact H2 _ hh (by rw [hB])
      · rw [if_neg hx]
        have hh : hexP (B s) = false := by rw [hB]; simpa using hx
        have z := H0 hh
        rw [hB] at z
        have e1 : ¬ (a == 48 && c == 120) = true := fun q => hx (by unfold hexP; simp only [Bool.and_eq_true, Bool.or_eq_true] at q ⊢; exact ⟨q.1, Or.inl q.2⟩)
        have e2 : (a == 48 && c == 88) = false := by
          cases hq : (a == 48 && c == 88) with
          | false => rfl
          | true => exact absurd (by unfold hexP; simp only [Bool.and_eq_true, Bool.or_eq_true] at hq ⊢; exact ⟨hq.1, Or.inr hq.2⟩) hx
        refine Ev.neg e1 (Ev.bnd (prefix2 s 48 88) ?_)
        rw [hB]
        show Ev (fun n => ip_part.j0 n s (a == 48 && c == 88)) _
        rw [e2]
        exact z
theorem spl_mem (c : UInt8) : ∀ (l x : List UInt8), x ∈ spl c l → x.length ≤ l.length
  | [], x, h => by
    have : x = [] := by simpa [spl] using h
    subst this; exact Nat.le_refl _
  | b :: t, x, h => by
    have ih := spl_mem c t
    unfold spl at h
    split at h
    · rcases List.mem_cons.1 h with rfl | h
      · exact Nat.zero_le _
      · exact Nat.le_trans (ih x h) (by rw [List.length_cons]; omega)
    · have hd := spl_hdtl' c t
      rcases List.mem_cons.1 h with rfl | h
      · have := ih ((spl c t).headD []) (by rw [hd]; exact List.mem_cons_self)
        rw [List.length_cons, List.length_cons]; omega
      · have := ih x (by rw [hd]; exact List.mem_cons_of_mem _ h)
        rw [List.length_cons]; omega
theorem prts_mem {l x : List UInt8} (h : x ∈ prts l) : x.length ≤ l.length := by
  unfold prts at h
  split at h
  · rw [List.dropLast_eq_take] at h
    exact spl_mem 46 l x (List.mem_of_mem_take h)
  · exact spl_mem 46 l x h
theorem prts_len (l : List UInt8) : (prts l).length ≤ l.length + 1 := by
  have := spl_len 46 l
  unfold prts
  split
  · rw [List.length_dropLast]; omega
  · exact this
theorem last_rd {p : List (List UInt8)} (hne : p ≠ []) (hl : p.length ≤ 1000000001) : rdOf ByteArray.empty (p.map mk) (wrap64 (((p.map mk).length : Int) - 1)) = mk (p.getLast hne) := by
  have hpos : 0 < p.length := List.length_pos_iff.2 hne
  rw [List.length_map, wrap_id (by omega) (by omega)]
  have e : (p.length : Int) - 1 = ((p.length - 1 : Nat) : Int) := by omega
  have hg : (p.map mk)[p.length - 1]? = some (mk (p.getLast hne)) := by
    rw [List.getElem?_map, ← List.getLast?_eq_getElem?, List.getLast?_eq_some_getLast hne]; rfl
  rw [e, rdOf_of hg]
def endX (x : List UInt8) : Bool := !x.isEmpty && (x.all (isD 10) || (hexP x && (x.drop 2).all (isD 16)))
def endsV (l : List UInt8) : Bool := endX ((prts l).getLast (prts_ne l))
theorem oct_dec {l : List UInt8} (h : l.all (isD 8) = true) : l.all (isD 10) = true := by
  rw [List.all_eq_true] at h ⊢
  intro x hx
  have := isD_iff.1 (h x hx)
  exact isD_iff.2 ⟨this.1, by omega⟩
theorem nm_ok (cap b : Int) (l : List UInt8) : (nm cap b l).2 = l.all (isD b) := by
  unfold nm
  split
  · rename_i h; exact h.symm
  · rename_i h; exact (by simpa using h : l.all (isD b) = false).symm
/-- The values of all parts. -/
def vals (cap : Int) : List (List UInt8) → Option (List Int)
  | [] => some []
  | x :: r => if (partV cap x).2 = true then (vals cap r).map ((partV cap x).1 :: ·) else none
/-- Four bytes out of one to four numbers. -/
def fourV : List Int → Int × Int
  | [a] => if a < 4294967296 then (a, 0) else (0, 1)
  | [a, b] => if a ≤ 255 ∧ b < 16777216 then (a * 16777216 + b, 0) else (0, 1)
  | [a, b, c] => if a ≤ 255 ∧ b ≤ 255 ∧ c < 65536 then (a * 16777216 + b * 65536 + c, 0) else (0, 1)
  | [a, b, c, d] => if a ≤ 255 ∧ b ≤ 255 ∧ c ≤ 255 ∧ d < 256 then (a * 16777216 + b * 65536 + c * 256 + d, 0) else (0, 1)
  | _ => (0, 4)
def P4 (cap : Int) (l : List UInt8) : Int × Int := if 4000 < l.length then (0, 11) else if 4 < (prts l).length then (0, 4) else match vals cap (prts l) with
  | none => (0, 4)
  | some n => fourV n
theorem partV_caps (l : List UInt8) : ∃ (v : Int) (ok : Bool), 0 ≤ v ∧ ∀ cap, 0 ≤ cap → partV cap l = if ok = true then (mn v cap, true) else (0, false) := by
  unfold partV
  split
  · exact ⟨0, false, by omega, fun _ _ => rfl⟩
  · split
    · obtain ⟨v, h, k⟩ := nm_caps (b := 16) (by omega) (l.drop 2); exact ⟨v, _, h, k⟩
    · split
      · obtain ⟨v, h, k⟩ := nm_caps (b := 8) (by omega) (l.drop 1); exact ⟨v, _, h, k⟩
      · obtain ⟨v, h, k⟩ := nm_caps (b := 10) (by omega) l; exact ⟨v, _, h, k⟩
theorem vals_caps : ∀ L : List (List UInt8), (∃ vs : List Int, (∀ v ∈ vs, 0 ≤ v) ∧ vs.length = L.length ∧ ∀ cap, 0 ≤ cap → vals cap L = some (vs.map (mn · cap))) ∨ ∀ cap, 0 ≤ cap → vals cap L = none
  | [] => Or.inl ⟨[], (fun _ h => by cases h), rfl, fun _ _ => rfl⟩
  | x :: r => by
    obtain ⟨v, ok, h0, hv⟩ := partV_caps x
    cases ok with
    | false => exact Or.inr (fun cap hc => by unfold vals; rw [hv cap hc]; rfl)
    | true =>
      rcases vals_caps r with ⟨vs, h1, h2, h3⟩ | h3
      · exact Or.inl ⟨v :: vs, (by intro z hz; rcases List.mem_cons.1 hz with rfl | hz; exact h0; exact h1 z hz), by rw [List.length_cons, List.length_cons, h2], fun cap hc => by unfold vals; rw [hv cap hc, h3 cap hc]; rfl⟩
      · exact Or.inr (fun cap hc => by unfold vals; rw [hv cap hc, h3 cap hc]; rfl)
theorem four_caps (c d : Int) (hc : 4294967296 ≤ c) (hd : 4294967296 ≤ d) (vs : List Int) : fourV (vs.map (mn · c)) = fourV (vs.map (mn · d)) := by
  have h1 : ∀ v T : Int, T ≤ 4294967296 → (mn v c < T ↔ v < T) := fun v T hT => by unfold mn; split <;> omega
  have h2 : ∀ v T : Int, T ≤ 4294967296 → (mn v d < T ↔ v < T) := fun v T hT => by unfold mn; split <;> omega
  have h3 : ∀ v : Int, mn v c ≤ 255 ↔ v ≤ 255 := fun v => by unfold mn; split <;> omega
  have h4 : ∀ v : Int, mn v d ≤ 255 ↔ v ≤ 255 := fun v => by unfold mn; split <;> omega
  have e1 : ∀ v T : Int, T ≤ 4294967296 → v < T → mn v c = v := fun v T hT h => by unfold mn; split <;> omega
  have e2 : ∀ v T : Int, T ≤ 4294967296 → v < T → mn v d = v := fun v T hT h => by unfold mn; split <;> omega
  match vs with
  | [] => rfl
  | [a] =>
    simp only [List.map_cons, List.map_nil, fourV, h1 a 4294967296 (by omega), h2 a 4294967296 (by omega)]
    split
    · rename_i h; rw [e1 a _ (Int.le_refl _) h, e2 a _ (Int.le_refl _) h]
    · rfl
  | [a, b] =>
    simp only [List.map_cons, List.map_nil, fourV, h3, h4, h1 b 16777216 (by omega), h2 b 16777216 (by omega)]
    split
    · rename_i h; rw [e1 a 256 (by omega) (by omega), e2 a 256 (by omega) (by omega), e1 b 16777216 (by omega) h.2, e2 b 16777216 (by omega) h.2]
    · rfl
  | [a, b, x] =>
    simp only [List.map_cons, List.map_nil, fourV, h3, h4, h1 x 65536 (by omega), h2 x 65536 (by omega)]
    split
    · rename_i h; rw [e1 a 256 (by omega) (by omega), e2 a 256 (by omega) (by omega), e1 b 256 (by omega) (by omega), e2 b 256 (by omega) (by omega), e1 x 65536 (by omega) h.2.2, e2 x 65536 (by omega) h.2.2]
    · rfl
  | [a, b, x, y] =>
    simp only [List.map_cons, List.map_nil, fourV, h3, h4, h1 y 256 (by omega), h2 y 256 (by omega)]
    split
    · rename_i h; rw [e1 a 256 (by omega) (by omega), e2 a 256 (by omega) (by omega), e1 b 256 (by omega) (by omega), e2 b 256 (by omega) (by omega), e1 x 256 (by omega) (by omega), e2 x 256 (by omega) (by omega), e1 y 256 (by omega) h.2.2.2, e2 y 256 (by omega) h.2.2.2]
    · rfl
  | a :: b :: x :: y :: z :: r => rfl
theorem P4_caps (l : List UInt8) : P4 8589934592 l = P4 1099511627776 l := by
  unfold P4
  rcases vals_caps (prts l) with ⟨vs, h1, h2, h3⟩ | h3
  · rw [h3 _ (by omega), h3 _ (by omega)]
    simp only [four_caps 8589934592 1099511627776 (by omega) (by omega) vs]
  · rw [h3 _ (by omega), h3 _ (by omega)]
def decL (n : Nat) : List UInt8 := if h : n < 10 then [UInt8.ofNat (48 + n)] else decL (n / 10) ++ [UInt8.ofNat (48 + n % 10)]
termination_by n
decreasing_by omega
theorem decL_small {n : Nat} (h : n < 10) : decL n = [UInt8.ofNat (48 + n)] := by unfold decL; rw [dif_pos h]
theorem decL_big {n : Nat} (h : ¬ n < 10) : decL n = decL (n / 10) ++ [UInt8.ofNat (48 + n % 10)] := by rw [decL, dif_neg h]
theorem decL_len : ∀ (b n : Nat), n < 10 ^ (b + 1) → (decL n).length ≤ b + 1
  | 0, n, h => by rw [decL_small (by simpa using h)]; simp
  | b + 1, n, h => by
    by_cases h10 : n < 10
    · rw [decL_small h10]; simp
    · rw [decL_big h10, List.length_append, List.length_singleton]
      have := decL_len b (n / 10) (by rw [Nat.pow_succ] at h; omega)
      omega
theorem decL_digits : ∀ (b n : Nat), n < b → ∀ c ∈ decL n, 48 ≤ c.toNat ∧ c.toNat ≤ 57
  | 0, n, h => by omega
  | b + 1, n, h => by
    intro c hc
    by_cases h10 : n < 10
    · rw [decL_small h10] at hc
      rw [List.mem_singleton.1 hc, UInt8.toNat_ofNat_of_lt' (by show 48 + n < 256; omega)]; omega
    · rw [decL_big h10] at hc
      rcases List.mem_append.1 hc with m | m
      · exact decL_digits b (n / 10) (by omega) c m
      · rw [List.mem_singleton.1 m, UInt8.toNat_ofNat_of_lt' (by show 48 + n % 10 < 256; omega)]; omega
theorem decL_ne (n : Nat) : decL n ≠ [] := by
  by_cases h10 : n < 10
  · rw [decL_small h10]; simp
  · rw [decL_big h10]; simp
theorem num_one {x : Int} {n : Nat} (h : x = (n : Int)) (hn : n < 256) : strOfNums [(wrap64 x) % 256] = mk [UInt8.ofNat n] := by
  have : (wrap64 x) % 256 = (n : Int) := by rw [wrap_id (by omega) (by omega)]; omega
  rw [this]; rfl
theorem i64w (n : Int) (h₀ : 0 ≤ n) (h₁ : n < 2 ^ 63) : IntKind.i64.wrap n = n := by rw [IntKind.wrap_i64]; omega
theorem and63 (x : Int) (h0 : 0 ≤ x) (h1 : x < 9223372036854775808) : Go.bits .and .i64 x 63 = x % 64 := Go.bits_mask .i64 63 (by decide) i64w 6 (by decide) x h0 h1
theorem and31 (x : Int) (h0 : 0 ≤ x) (h1 : x < 9223372036854775808) : Go.bits .and .i64 x 31 = x % 32 := Go.bits_mask .i64 63 (by decide) i64w 5 (by decide) x h0 h1
theorem and15 (x : Int) (h0 : 0 ≤ x) (h1 : x < 9223372036854775808) : Go.bits .and .i64 x 15 = x % 16 := Go.bits_mask .i64 63 (by decide) i64w 4 (by decide) x h0 h1
theorem and7 (x : Int) (h0 : 0 ≤ x) (h1 : x < 9223372036854775808) : Go.bits .and .i64 x 7 = x % 8 := Go.bits_mask .i64 63 (by decide) i64w 3 (by decide) x h0 h1
theorem or128 (y : Int) (h0 : 0 ≤ y) (h1 : y < 64) : Go.bits .or .i64 128 y = 128 + y :=
  Go.bits_join .i64 63 (by decide) i64w 6 128 y (by decide) (by decide) (by decide) h0 h1 (by omega)
theorem or192 (y : Int) (h0 : 0 ≤ y) (h1 : y < 32) : Go.bits .or .i64 192 y = 192 + y :=
  Go.bits_join .i64 63 (by decide) i64w 5 192 y (by decide) (by decide) (by decide) h0 h1 (by omega)
theorem or224 (y : Int) (h0 : 0 ≤ y) (h1 : y < 16) : Go.bits .or .i64 224 y = 224 + y :=
  Go.bits_join .i64 63 (by decide) i64w 4 224 y (by decide) (by decide) (by decide) h0 h1 (by omega)
theorem or240 (y : Int) (h0 : 0 ≤ y) (h1 : y < 8) : Go.bits .or .i64 240 y = 240 + y :=
  Go.bits_join .i64 63 (by decide) i64w 3 240 y (by decide) (by decide) (by decide) h0 h1 (by omega)
theorem orsix (x y : Int) (hx : 0 ≤ x) (hx1 : x < 100000000000000000) (h0 : 0 ≤ y) (h1 : y < 64) : Go.bits .or .i64 (x * 64) y = x * 64 + y :=
  Go.bits_join .i64 63 (by decide) i64w 6 (x * 64) y (by omega) (by omega) (by omega) h0 h1 (by omega)
theorem wf_u16 {x : Int} (h : (Lit.int .u16 x).wf = true) : 0 ≤ x ∧ x < 65536 := by
  simp [Lit.wf, IntKind.min, IntKind.max, IntKind.signed, IntKind.bits] at h
  omega
theorem wf_u32 {x : Int} (h : (Lit.int .u32 x).wf = true) : 0 ≤ x ∧ x < 4294967296 := by
  simp [Lit.wf, IntKind.min, IntKind.max, IntKind.signed, IntKind.bits] at h
  omega
theorem u32w (n : Int) (h₀ : 0 ≤ n) (h₁ : n < 2 ^ 32) : IntKind.u32.wrap n = n := by show n % 4294967296 = n; omega
theorem and255u (x : Int) (h0 : 0 ≤ x) (h1 : x < 4294967296) : Go.bits .and .u32 x 255 = x % 256 := Go.bits_mask .u32 32 (by decide) u32w 8 (by decide) x h0 h1
theorem decD_eq : ∀ (b n : Nat), n < b → Lib.decDigits n = decL n
  | 0, n, h => by omega
  | b + 1, n, h => by
    rw [Lib.decDigits]
    by_cases h10 : n < 10
    · rw [dif_pos h10, decL_small h10]
    · rw [dif_neg h10, decL_big h10, decD_eq b (n / 10) (by omega)]
theorem Itoa_dec (n : Nat) (h : n ≤ 9223372036854775807) : strconv_Itoa.f (n : Int) = some (mk (decL n)) := by
  unfold strconv_Itoa.f Lib.itoa
  rw [if_pos (by omega), if_neg (by omega), Int.toNat_natCast, decD_eq (n + 1) n (by omega)]
  rfl
def q4 (n : Int) (i : Nat) : Nat := (n / [16777216, 65536, 256, 1].getD i 1 % 256).toNat
/-- Four bytes written. -/
def pr4 (n : Int) : List UInt8 := decL (q4 n 0) ++ 46 :: (decL (q4 n 1) ++ 46 :: (decL (q4 n 2) ++ 46 :: decL (q4 n 3)))
theorem q4_lt (n : Int) (i : Nat) : q4 n i < 256 := by
  unfold q4
  have h := Int.emod_lt_of_pos (n / [16777216, 65536, 256, 1].getD i 1) (show (0 : Int) < 256 by decide)
  have h2 := Int.emod_nonneg (n / [16777216, 65536, 256, 1].getD i 1) (show (256 : Int) ≠ 0 by decide)
  omega
theorem dec_len3 (n : Int) (i : Nat) : (decL (q4 n i)).length ≤ 3 := decL_len 2 _ (by have := q4_lt n i; omega)
theorem pr4_step (n : Int) (hn : 0 ≤ n ∧ n < 4294967296) (i : Nat) (hi : i < 4) (acc : List ByteArray) (ha : acc.length ≤ 4) {r : ByteArray} (h : Ev (fun k => ip_Print4.l0 k n (acc ++ [mk (decL (q4 n i))]) ((i + 1 : Nat) : Int)) r) : Ev (fun k => ip_Print4.l0 k n acc (i : Int)) r := by
  have hs : shr .u32 n (wrap64 (24 - (wrap64 (8 * (i : Int))))) = n / [16777216, 65536, 256, 1].getD i 1 := by
    match i, hi with
    | 0, _ => show _ = _; kernel_rfl
    | 1, _ => show _ = _; kernel_rfl
    | 2, _ => show _ = _; kernel_rfl
    | 3, _ => show _ = _; kernel_rfl
  have hr : 0 ≤ n / [16777216, 65536, 256, 1].getD i 1 ∧ n / [16777216, 65536, 256, 1].getD i 1 < 4294967296 := by
    match i, hi with
    | 0, _ => show 0 ≤ n / 16777216 ∧ n / 16777216 < 4294967296; omega
    | 1, _ => show 0 ≤ n / 65536 ∧ n / 65536 < 4294967296; omega
    | 2, _ => show 0 ≤ n / 256 ∧ n / 256 < 4294967296; omega
    | 3, _ => show 0 ≤ n / 1 ∧ n / 1 < 4294967296; omega
  have hq := q4_lt n i
  refine Ev.step (fun _ => ip_Print4.l0.eq_2 ..) (Ev.pos (by omega) (Ev.pos ?_ ?_))
  · match i, hi with
    | 0, _ => decide +kernel
    | 1, _ => decide +kernel
    | 2, _ => decide +kernel
    | 3, _ => decide +kernel
  · rw [hs, and255u _ hr.1 hr.2]
    have e : n / [16777216, 65536, 256, 1].getD i 1 % 256 = ((q4 n i : Nat) : Int) := by unfold q4; rw [Int.toNat_of_nonneg (by omega)]
    rw [e, wrap_id (by omega) (by omega)]
    refine Ev.bnd (Itoa_dec _ (by omega)) (Ev.pos (by omega) ?_)
    rw [wrap_id (x := (i : Int) + 1) (by omega) (by omega), cast_succ]
    exact h
theorem join_f (l : List (List UInt8)) (c : UInt8) (h : l.length ≤ 100) (hl : ([c].intercalate l).length ≤ 1000000) : strings_Join.f (l.map mk) (⟨#[c]⟩ : ByteArray) = some (mk ([c].intercalate l)) := by
  have e : (l.map mk).map (·.data.toList) = l := by rw [List.map_map]; exact (List.map_congr_left (fun x _ => rfl)).trans (List.map_id l)
  unfold strings_Join.f Lib.join
  rw [e, if_pos ⟨by rw [List.length_map]; omega, by show ([c].intercalate l).length ≤ _; omega⟩]
  rfl
theorem Print4_prog (n : Int) (hn : 0 ≤ n ∧ n < 4294967296) : Ev (fun k => ip_Print4.f k n) (mk (pr4 n)) := by
  have e0 : ∀ r : ByteArray, Ev (fun k => ip_Print4.l0 k n [] ((0 : Nat) : Int)) r → Ev (fun k => ip_Print4.f k n) r := fun r z => z
  apply e0
  refine pr4_step n hn 0 (by decide) _ (by simp) (pr4_step n hn 1 (by decide) _ (by simp) (pr4_step n hn 2 (by decide) _ (by simp) (pr4_step n hn 3 (by decide) _ (by simp) ?_)))
  refine Ev.step (fun _ => ip_Print4.l0.eq_2 ..) (Ev.neg (by decide) ?_)
  have e : ([46] : List UInt8).intercalate [decL (q4 n 0), decL (q4 n 1), decL (q4 n 2), decL (q4 n 3)] = pr4 n := by
    unfold pr4
    simp [List.intercalate, List.intersperse]
  have hl : (pr4 n).length ≤ 1000000 := by
    unfold pr4
    have h0 := dec_len3 n 0; have h1 := dec_len3 n 1; have h2 := dec_len3 n 2; have h3 := dec_len3 n 3
    simp only [List.length_append, List.length_cons]; omega
  refine Ev.bnd (a := mk (pr4 n)) ?_ (Ev.now _)
  have z := join_f [decL (q4 n 0), decL (q4 n 1), decL (q4 n 2), decL (q4 n 3)] 46 (by simp) (by rw [e]; exact hl)
  rw [e] at z
  exact z
/-- A number's digits of a base. -/
def bL (b n : Nat) : List UInt8 := if h : n < b ∨ b < 2 then [Own.hexD n] else bL b (n / b) ++ [Own.hexD (n % b)]
termination_by n
decreasing_by exact Nat.div_lt_self (by omega) (by omega)
theorem bL_small {b n : Nat} (h : n < b) : bL b n = [Own.hexD n] := by rw [bL, dif_pos (Or.inl h)]
theorem bL_big {b n : Nat} (h : ¬ n < b) (hb : 2 ≤ b) : bL b n = bL b (n / b) ++ [Own.hexD (n % b)] := by rw [bL, dif_neg (by omega)]
theorem hexD_fin {p : Nat → Prop} (h : ∀ j : Fin 16, p j.val) (n : Nat) (hn : n < 16) : p n := h ⟨n, hn⟩
theorem hexD_ten (n : Nat) (h : n < 10) : Own.hexD n = UInt8.ofNat (48 + n) := by
  have z : ∀ j : Fin 10, Own.hexD j.val = UInt8.ofNat (48 + j.val) := by decide +kernel
  exact z ⟨n, h⟩
theorem dv_hexD (n : Nat) (h : n < 16) : dv (Own.hexD n) = (n : Int) := hexD_fin (p := fun n => dv (Own.hexD n) = (n : Int)) (by decide +kernel) n h
theorem hexD_48 (n : Nat) (h : n < 16) : Own.hexD n = 48 ↔ n = 0 := hexD_fin (p := fun n => Own.hexD n = 48 ↔ n = 0) (by decide +kernel) n h
theorem bL_dec : ∀ (m n : Nat), n < m → bL 10 n = decL n
  | 0, n, h => by omega
  | m + 1, n, h => by
    by_cases h10 : n < 10
    · rw [bL_small h10, decL_small h10, hexD_ten n h10]
    · rw [bL_big h10 (by omega), decL_big h10, bL_dec m (n / 10) (by omega), hexD_ten _ (by omega)]
theorem dec_bL (n : Nat) : decL n = bL 10 n := (bL_dec (n + 1) n (by omega)).symm
theorem bL_all (b : Nat) (hb : b = 8 ∨ b = 10 ∨ b = 16) : ∀ (m n : Nat), n < m → (bL b n).all (isD (b : Int)) = true
  | 0, n, h => by omega
  | m + 1, n, h => by
    have hd : ∀ i : Nat, i < b → isD (b : Int) (Own.hexD i) = true := fun i hi => isD_iff.2 (by rw [dv_hexD i (by omega)]; omega)
    by_cases hn : n < b
    · rw [bL_small hn, List.all_cons, hd n hn]; rfl
    · have hdiv : n / b < m := Nat.lt_of_lt_of_le (Nat.div_lt_self (by omega) (by omega)) (by omega)
      rw [bL_big hn (by omega), List.all_append, bL_all b hb m (n / b) hdiv, List.all_cons, hd (n % b) (Nat.mod_lt _ (by omega))]; rfl
theorem valL_append (b : Int) : ∀ (l r : List UInt8) (v : Int), valL b (l ++ r) v = valL b r (valL b l v)
  | [], r, v => rfl
  | c :: l, r, v => valL_append b l r (v * b + dv c)
theorem bL_val (b : Nat) (hb : b = 8 ∨ b = 10 ∨ b = 16) : ∀ (m n : Nat), n < m → valL (b : Int) (bL b n) 0 = (n : Int)
  | 0, n, h => by omega
  | m + 1, n, h => by
    by_cases hn : n < b
    · rw [bL_small hn]
      show (0 : Int) * (b : Int) + dv (Own.hexD n) = _
      rw [dv_hexD n (by omega)]; omega
    · have hdiv : n / b < m := Nat.lt_of_lt_of_le (Nat.div_lt_self (by omega) (by omega)) (by omega)
      rw [bL_big hn (by omega), valL_append, bL_val b hb m (n / b) hdiv]
      have hm : n % b < b := Nat.mod_lt _ (by omega)
      show ((n / b : Nat) : Int) * (b : Int) + dv (Own.hexD (n % b)) = _
      rw [dv_hexD _ (by omega)]
      rcases hb with rfl | rfl | rfl <;> omega
theorem bL_ne (b n : Nat) : bL b n ≠ [] := by
  rw [bL]
  split <;> simp
theorem bL_head (b : Nat) (hb : b = 8 ∨ b = 10 ∨ b = 16) : ∀ (m n : Nat), n < m → (bL b n).head? = some 48 → n = 0
  | 0, n, h, _ => by omega
  | m + 1, n, h, q => by
    by_cases hn : n < b
    · rw [bL_small hn] at q
      exact (hexD_48 n (by omega)).1 (Option.some.inj q)
    · have hdiv : n / b < m := Nat.lt_of_lt_of_le (Nat.div_lt_self (by omega) (by omega)) (by omega)
      rw [bL_big hn (by omega)] at q
      have q' : (bL b (n / b)).head? = some 48 := by
        cases hq : bL b (n / b) with
        | nil => exact absurd hq (bL_ne _ _)
        | cons c t => rw [hq] at q; exact q
      have z := bL_head b hb m (n / b) hdiv q'
      rcases hb with rfl | rfl | rfl <;> omega
theorem bL_len (b : Nat) (hb : 2 ≤ b) : ∀ (m n : Nat), n < 2 ^ (m + 1) → (bL b n).length ≤ m + 1
  | 0, n, h => by
    rw [bL_small (by omega)]; simp
  | m + 1, n, h => by
    by_cases hn : n < b
    · rw [bL_small hn]; simp
    · have h2 : n / b ≤ n / 2 := Nat.div_le_div_left hb (by decide)
      rw [bL_big hn hb, List.length_append, List.length_singleton]
      have := bL_len b hb m (n / b) (by rw [Nat.pow_succ] at h; omega)
      omega
theorem no_dot {b : Int} {l : List UInt8} (h : l.all (isD b) = true) : 46 ∉ l := fun q => by
  rw [List.all_eq_true] at h
  have := (isD_iff.1 (h 46 q)).1
  exact absurd this (by decide)
theorem no_colon {b : Int} {l : List UInt8} (h : l.all (isD b) = true) : 58 ∉ l := fun q => by
  rw [List.all_eq_true] at h
  have := (isD_iff.1 (h 58 q)).1
  exact absurd this (by decide)
theorem hexP_no {b : Int} {l : List UInt8} (h : l.all (isD b) = true) : hexP l = false := by
  match l, h with
  | [], _ => rfl
  | [a], _ => rfl
  | a :: c :: t, h =>
    rw [List.all_eq_true] at h
    have hc := (isD_iff.1 (h c (by simp))).1
    show (a == 48 && (c == 120 || c == 88)) = false
    have h1 : c ≠ 120 := fun q => by subst q; exact absurd hc (by decide)
    have h2 : c ≠ 88 := fun q => by subst q; exact absurd hc (by decide)
    rw [beq_eq_false_iff_ne.2 h1, beq_eq_false_iff_ne.2 h2]
    simp
theorem bLn (b : Nat) (hb : b = 8 ∨ b = 10 ∨ b = 16) (cap : Int) (hc : 0 ≤ cap) (n : Nat) : nm cap (b : Int) (bL b n) = (mn (n : Int) cap, true) := by
  rw [nm_val (by omega) hc (bL_all b hb (n + 1) n (by omega)), bL_val b hb (n + 1) n (by omega)]
theorem partV_dec (cap : Int) (hc : 0 ≤ cap) (n : Nat) : partV cap (bL 10 n) = (mn (n : Int) cap, true) := by
  have hall := bL_all 10 (by omega) (n + 1) n (by omega)
  unfold partV
  rw [if_neg (bL_ne _ _), if_neg (by rw [hexP_no hall]; decide), if_neg (fun q => by
    have z := bL_head 10 (by omega) (n + 1) n (by omega) q.1
    subst z
    rw [bL_small (by decide)] at q
    exact absurd q.2 (by decide))]
  exact bLn 10 (by omega) cap hc n
theorem partV_hex (cap : Int) (hc : 0 ≤ cap) (n : Nat) : partV cap (48 :: 120 :: bL 16 n) = (mn (n : Int) cap, true) := by
  unfold partV
  rw [if_neg (by simp), if_pos (show hexP (48 :: 120 :: bL 16 n) = true from rfl)]
  exact bLn 16 (by omega) cap hc n
theorem partV_oct (cap : Int) (hc : 0 ≤ cap) (n : Nat) : partV cap (48 :: bL 8 n) = (mn (n : Int) cap, true) := by
  have hall := bL_all 8 (by omega) (n + 1) n (by omega)
  have hall2 : (48 :: bL 8 n).all (isD 8) = true := by rw [List.all_cons, show ((8 : Nat) : Int) = 8 from rfl] at *; rw [hall]; rfl
  unfold partV
  rw [if_neg (by simp), if_neg (by rw [hexP_no hall2]; decide), if_pos ⟨rfl, by rw [List.length_cons]; have := List.length_pos_iff.2 (bL_ne 8 n); omega⟩]
  exact bLn 8 (by omega) cap hc n
theorem prts_one {l : List UInt8} (h : 46 ∉ l) : prts l = [l] := by
  unfold prts
  rw [spl_whole 46 l h, if_neg (by simp)]
theorem P4_one {cap : Int} {l : List UInt8} (h46 : 46 ∉ l) (hl : l.length ≤ 4000) {v : Int} (hv : partV cap l = (v, true)) : P4 cap l = fourV [v] := by
  unfold P4
  rw [if_neg (by omega), prts_one h46, if_neg (by simp)]
  simp [vals, hv]
theorem mnv {v : Int} (h : v < 4294967296) : mn v 8589934592 = v := mn_id (by omega)
theorem prts4 {a b c d : List UInt8} (ha : 46 ∉ a) (hb : 46 ∉ b) (hc : 46 ∉ c) (hd : 46 ∉ d) (hne : d ≠ []) : prts (a ++ 46 :: (b ++ 46 :: (c ++ 46 :: d))) = [a, b, c, d] := by
  unfold prts
  rw [spl_cut 46 _ a ha, spl_cut 46 _ b hb, spl_cut 46 _ c hc, spl_whole 46 d hd, if_neg (fun q => hne (by simpa using q.2))]
theorem P4_pr4 (n : Int) (hn : 0 ≤ n ∧ n < 4294967296) (e : List UInt8) (he : e = [] ∨ e = [46]) : P4 8589934592 (pr4 n ++ e) = (n, 0) := by
  have hl : (pr4 n ++ e).length ≤ 4000 := by
    unfold pr4
    have h0 := dec_len3 n 0; have h1 := dec_len3 n 1; have h2 := dec_len3 n 2; have h3 := dec_len3 n 3
    have : e.length ≤ 1 := by rcases he with rfl | rfl <;> simp
    simp only [List.length_append, List.length_cons]; omega
  have D : ∀ i, 46 ∉ decL (q4 n i) := fun i => by rw [dec_bL]; exact no_dot (bL_all 10 (by omega) _ _ (Nat.lt_succ_self _))
  have hp : prts (pr4 n ++ e) = [decL (q4 n 0), decL (q4 n 1), decL (q4 n 2), decL (q4 n 3)] := by
    rcases he with rfl | rfl
    · rw [List.append_nil]
      exact prts4 (D 0) (D 1) (D 2) (D 3) (decL_ne _)
    · have ex : pr4 n ++ [46] = decL (q4 n 0) ++ 46 :: (decL (q4 n 1) ++ 46 :: (decL (q4 n 2) ++ 46 :: (decL (q4 n 3) ++ 46 :: []))) := by unfold pr4; simp
      unfold prts
      rw [ex, spl_cut 46 _ _ (D 0), spl_cut 46 _ _ (D 1), spl_cut 46 _ _ (D 2), spl_cut 46 _ _ (D 3)]
      rfl
  have hv : ∀ i, partV 8589934592 (decL (q4 n i)) = (((q4 n i : Nat) : Int), true) := fun i => by
    have := q4_lt n i
    rw [dec_bL, partV_dec _ (by omega), mn_id (by omega)]
  unfold P4
  rw [if_neg (by omega), hp, if_neg (by simp)]
  have hvals : vals 8589934592 [decL (q4 n 0), decL (q4 n 1), decL (q4 n 2), decL (q4 n 3)] = some [((q4 n 0 : Nat) : Int), ((q4 n 1 : Nat) : Int), ((q4 n 2 : Nat) : Int), ((q4 n 3 : Nat) : Int)] := by simp [vals, hv]
  rw [hvals]
  have q0 := q4_lt n 0; have q1 := q4_lt n 1; have q2 := q4_lt n 2; have q3 := q4_lt n 3
  have e0 : ((q4 n 0 : Nat) : Int) = n / 16777216 % 256 := by show (((n / 16777216 % 256).toNat : Nat) : Int) = _; omega
  have e1 : ((q4 n 1 : Nat) : Int) = n / 65536 % 256 := by show (((n / 65536 % 256).toNat : Nat) : Int) = _; omega
  have e2 : ((q4 n 2 : Nat) : Int) = n / 256 % 256 := by show (((n / 256 % 256).toNat : Nat) : Int) = _; omega
  have e3 : ((q4 n 3 : Nat) : Int) = n % 256 := by show (((n / 1 % 256).toNat : Nat) : Int) = _; omega
  show (if _ then _ else _) = _
  rw [if_pos ⟨by omega, by omega, by omega, by omega⟩, e0, e1, e2, e3]
  congr 1
  omega
theorem shr_at (j : Nat) (hj : j ≤ 3) (v : Int) : shr .i64 v (wrap64 (8 * (wrap64 (4 - (j : Int))))) = v / [4294967296, 16777216, 65536, 256].getD j 1 := by
  match j, hj with
  | 0, _ => show _ = _; kernel_rfl
  | 1, _ => show _ = _; kernel_rfl
  | 2, _ => show _ = _; kernel_rfl
  | 3, _ => show _ = _; kernel_rfl
theorem shl_at (j : Nat) (hj : j < 3) (v : Int) : shl .i64 v (wrap64 (8 * (wrap64 (3 - (j : Int))))) = wrap64 (v * [16777216, 65536, 256].getD j 1) := by
  refine Eq.trans (b := IntKind.i64.wrap (v * [16777216, 65536, 256].getD j 1)) ?_ (i64_w _)
  match j, hj with
  | 0, _ => show _ = _; kernel_rfl
  | 1, _ => show _ = _; kernel_rfl
  | 2, _ => show _ = _; kernel_rfl
theorem four1 (a : Int) : fourV [a] = if a < 4294967296 then (a, 0) else (0, 1) := rfl
theorem four2 (a b : Int) : fourV [a, b] = if a ≤ 255 ∧ b < 16777216 then (a * 16777216 + b, 0) else (0, 1) := rfl
theorem four3 (a b c : Int) : fourV [a, b, c] = if a ≤ 255 ∧ b ≤ 255 ∧ c < 65536 then (a * 16777216 + b * 65536 + c, 0) else (0, 1) := rfl
theorem four4 (a b c d : Int) : fourV [a, b, c, d] = if a ≤ 255 ∧ b ≤ 255 ∧ c ≤ 255 ∧ d < 256 then (a * 16777216 + b * 65536 + c * 256 + d, 0) else (0, 1) := rfl
theorem l1_step (acc : Int) (L : List Int) (i : Nat) (v : Int) (hv : L[i]? = some v) (hL : L.length ≤ 3) {r : Int × Int} (h : v ≤ 255 → Ev (fun k => ip_Parse4.l1 k (wrap64 (acc + wrap64 (v * [16777216, 65536, 256].getD i 1))) L (L.length : Int) ((i + 1 : Nat) : Int)) r) (h2 : ¬ v ≤ 255 → r = (0, 1)) : Ev (fun k => ip_Parse4.l1 k acc L (L.length : Int) (i : Int)) r := by
  have hi := (List.getElem?_eq_some_iff.1 hv).1
  refine Ev.step (fun _ => ip_Parse4.l1.eq_2 ..) (Ev.pos (by omega) (Ev.pos (by omega) (Ev.pos (by omega) ?_)))
  rw [rd_of hv]
  by_cases q : v ≤ 255
  · refine Ev.neg (by omega) (Ev.pos ?_ ?_)
    · match i, (show i < 3 by omega) with
      | 0, _ => decide +kernel
      | 1, _ => decide +kernel
      | 2, _ => decide +kernel
    · rw [shl_at i (by omega), wrap_id (x := (i : Int) + 1) (by omega) (by omega), cast_succ]
      exact h q
  · rw [h2 q]
    exact Ev.pos (by omega) (Ev.now _)
theorem l1_end (acc : Int) (L : List Int) : Ev (fun k => ip_Parse4.l1 k acc L (L.length : Int) (L.length : Int)) (acc % 4294967296, 0) :=
  Ev.step (fun _ => ip_Parse4.l1.eq_2 ..) (Ev.neg (by omega) (Ev.now _))
theorem p4_last (L : List (List UInt8)) (m : List Int) (v : Int) (hm : m.length ≤ 3) (hl : m.length + 1 = L.length) {r : Int × Int} (h : v / [4294967296, 16777216, 65536, 256].getD m.length 1 ≤ 0 → Ev (fun k => ip_Parse4.l1 k v m (m.length : Int) 0) r) (h2 : v / [4294967296, 16777216, 65536, 256].getD m.length 1 > 0 → r = (0, 1)) :
    Ev (fun k => ip_Parse4.l0 k (m ++ [v]) (L.map mk) ((L.map mk).length : Int) (L.length : Int)) r := by
  have hn : (m ++ [v]).length = m.length + 1 := by rw [List.length_append]; rfl
  have e : wrap64 (((m ++ [v]).length : Int) - 1) = (m.length : Int) := by rw [hn, wrap_id (by omega) (by omega)]; omega
  have hg : (m ++ [v])[m.length]? = some v := by rw [List.getElem?_append_right (Nat.le_refl _), Nat.sub_self]; rfl
  refine Ev.step (fun _ => ip_Parse4.l0.eq_2 ..) (Ev.neg (by rw [List.length_map]; omega) ?_)
  rw [e, rd_of hg, shr_at m.length hm]
  refine Ev.pos (by omega) (Ev.pos (by rw [hn]; omega) (Ev.pos ?_ ?_))
  · match hj : m.length, hm with
    | 0, _ => decide +kernel
    | 1, _ => decide +kernel
    | 2, _ => decide +kernel
    | 3, _ => decide +kernel
  · by_cases q : v / [4294967296, 16777216, 65536, 256].getD m.length 1 > 0
    · rw [h2 q]
      exact Ev.pos q (Ev.now _)
    · refine Ev.neg q (Ev.pos (by rw [hn]; omega) (Ev.bnd (a := m) (by rw [Int.toNat_natCast, List.take_append_of_le_length (Nat.le_refl _), List.take_length]) ?_))
      exact h (by omega)
theorem p4_end (L : List (List UInt8)) (n : List Int) (hl : n.length = L.length) (hn : ∀ v ∈ n, 0 ≤ v ∧ v ≤ 8589934592) (h1 : 0 < n.length) (h4 : n.length ≤ 4) : Ev (fun k => ip_Parse4.l0 k n (L.map mk) ((L.map mk).length : Int) (L.length : Int)) (fourV n) := by
  match n, h1, h4 with
  | [a], _, _ =>
    have ha := hn a (by simp)
    refine p4_last L [] a (by simp) hl (fun q => ?_) (fun q => ?_)
    · have q' : a / 4294967296 ≤ 0 := q
      have z := l1_end a []
      rw [four1, if_pos (by omega)]
      rw [Int.emod_eq_of_lt ha.1 (by omega)] at z
      exact z
    · have q' : a / 4294967296 > 0 := q
      rw [four1, if_neg (by omega)]
  | [a, b], _, _ =>
    have ha := hn a (by simp)
    have hb := hn b (by simp)
    refine p4_last L [a] b (by simp) hl (fun q => ?_) (fun q => ?_)
    · have q' : b / 16777216 ≤ 0 := q
      refine l1_step b [a] 0 a rfl (by simp) (fun h => ?_) (fun h => by rw [four2, if_neg (fun z => h z.1)])
      have z := l1_end (wrap64 (b + wrap64 (a * 16777216))) [a]
      rw [four2, if_pos ⟨h, by omega⟩]
      rw [wrap_id (x := a * 16777216) (by omega) (by omega), wrap_id (by omega) (by omega), Int.emod_eq_of_lt (by omega) (by omega), Int.add_comm b] at z
      rw [show wrap64 (b + wrap64 (a * [16777216, 65536, 256].getD 0 1)) = a * 16777216 + b by show wrap64 (b + wrap64 (a * 16777216)) = _; rw [wrap_id (x := a * 16777216) (by omega) (by omega), wrap_id (by omega) (by omega), Int.add_comm]]
      exact z
    · have q' : b / 16777216 > 0 := q
      rw [four2, if_neg (by omega)]
  | [a, b, c], _, _ =>
    have ha := hn a (by simp)
    have hb := hn b (by simp)
    have hc := hn c (by simp)
    refine p4_last L [a, b] c (by simp) hl (fun q => ?_) (fun q => ?_)
    · have q' : c / 65536 ≤ 0 := q
      refine l1_step c [a, b] 0 a rfl (by simp) (fun h => ?_) (fun h => by rw [four3, if_neg (fun z => h z.1)])
      refine l1_step _ [a, b] 1 b rfl (by simp) (fun h' => ?_) (fun h' => by rw [four3, if_neg (fun z => h' z.2.1)])
      have e : wrap64 (wrap64 (c + wrap64 (a * [16777216, 65536, 256].getD 0 1)) + wrap64 (b * [16777216, 65536, 256].getD 1 1)) = a * 16777216 + b * 65536 + c := by
        show wrap64 (wrap64 (c + wrap64 (a * 16777216)) + wrap64 (b * 65536)) = _
        rw [wrap_id (x := a * 16777216) (by omega) (by omega), wrap_id (x := b * 65536) (by omega) (by omega), wrap_id (x := c + a * 16777216) (by omega) (by omega), wrap_id (by omega) (by omega)]; omega
      rw [e]
      have z := l1_end (a * 16777216 + b * 65536 + c) [a, b]
      rw [Int.emod_eq_of_lt (by omega) (by omega)] at z
      rw [four3, if_pos ⟨h, h', by omega⟩]
      exact z
    · have q' : c / 65536 > 0 := q
      rw [four3, if_neg (by omega)]
  | [a, b, c, d], _, _ =>
    have ha := hn a (by simp)
    have hb := hn b (by simp)
    have hc := hn c (by simp)
    have hd := hn d (by simp)
    refine p4_last L [a, b, c] d (by simp) hl (fun q => ?_) (fun q => ?_)
    · have q' : d / 256 ≤ 0 := q
      refine l1_step d [a, b, c] 0 a rfl (by simp) (fun h => ?_) (fun h => by rw [four4, if_neg (fun z => h z.1)])
      refine l1_step _ [a, b, c] 1 b rfl (by simp) (fun h' => ?_) (fun h' => by rw [four4, if_neg (fun z => h' z.2.1)])
      refine l1_step _ [a, b, c] 2 c rfl (by simp) (fun h2 => ?_) (fun h2 => by rw [four4, if_neg (fun z => h2 z.2.2.1)])
      have e : wrap64 (wrap64 (wrap64 (d + wrap64 (a * [16777216, 65536, 256].getD 0 1)) + wrap64 (b * [16777216, 65536, 256].getD 1 1)) + wrap64 (c * [16777216, 65536, 256].getD 2 1)) = a * 16777216 + b * 65536 + c * 256 + d := by
        show wrap64 (wrap64 (wrap64 (d + wrap64 (a * 16777216)) + wrap64 (b * 65536)) + wrap64 (c * 256)) = _
        rw [wrap_id (x := a * 16777216) (by omega) (by omega), wrap_id (x := b * 65536) (by omega) (by omega), wrap_id (x := c * 256) (by omega) (by omega), wrap_id (x := d + a * 16777216) (by omega) (by omega), wrap_id (x := d + a * 16777216 + b * 65536) (by omega) (by omega), wrap_id (by omega) (by omega)]; omega
      rw [e]
      have z := l1_end (a * 16777216 + b * 65536 + c * 256 + d) [a, b, c]
      rw [Int.emod_eq_of_lt (by omega) (by omega)] at z
      rw [four4, if_pos ⟨h, h', h2, by omega⟩]
      exact z
    · have q' : d / 256 > 0 := q
      rw [four4, if_neg (by omega)]
theorem mn_rng {v c : Int} (h : 0 ≤ v) (hc : 0 ≤ c) : 0 ≤ mn v c ∧ mn v c ≤ c := by unfold mn; split <;> omega
theorem partV_rng (cap : Int) (hc : 0 ≤ cap) (l : List UInt8) : 0 ≤ (partV cap l).1 ∧ (partV cap l).1 ≤ cap := by
  obtain ⟨v, ok, h0, hv⟩ := partV_caps l
  rw [hv cap hc]
  cases ok with
  | false => exact ⟨Int.le_refl _, hc⟩
  | true => exact mn_rng h0 hc
theorem p4_loop (L : List (List UInt8)) (hL : L.length ≤ 4) (h1 : 0 < L.length) (hs : ∀ x ∈ L, x.length ≤ 1000000000) : ∀ (rest : List (List UInt8)) (i : Nat) (acc : List Int), L.drop i = rest → i ≤ L.length → acc.length = i → (∀ v ∈ acc, 0 ≤ v ∧ v ≤ 8589934592) → Ev (fun k => ip_Parse4.l0 k acc (L.map mk) ((L.map mk).length : Int) (i : Int)) (match vals 8589934592 rest with | none => (0, 4) | some n => fourV (acc ++ n))
  | [], i, acc, h, hi, ha, hv => by
    have e : i = L.length := by have := drop_nil h; omega
    subst e
    simp only [vals, List.append_nil]
    exact p4_end L acc ha hv (by omega) (by omega)
  | x :: r, i, acc, h, hi, ha, hv => by
    obtain ⟨e1, e2, e3⟩ := drop_cons h
    have hx : x ∈ L := List.mem_of_getElem? e2
    have hsx : (mk x).size ≤ 1000000000 := by rw [size_B, B_mk]; exact hs x hx
    have hg : (L.map mk)[i]? = some (mk x) := by rw [List.getElem?_map, e2]; rfl
    refine Ev.step (fun _ => ip_Parse4.l0.eq_2 ..) (Ev.pos (by rw [List.length_map]; omega) (Ev.pos (by omega) (Ev.pos (by rw [List.length_map]; omega) ?_)))
    rw [rdOf_of hg]
    refine Ev.bind (part_prog (mk x) hsx) ?_
    rw [B_mk]
    unfold vals
    by_cases hok : (partV 8589934592 x).2 = true
    · rw [if_pos hok]
      have ih := p4_loop L hL h1 hs r (i + 1) (acc ++ [(partV 8589934592 x).1]) e3 (by omega) (by rw [List.length_append, ha]; rfl) (by
        intro v hv'
        rcases List.mem_append.1 hv' with q | q
        · exact hv v q
        · rw [List.mem_singleton.1 q]; exact partV_rng _ (by omega) x)
      refine Ev.pos hok (Ev.pos (by omega) ?_)
      rw [wrap_id (x := (i : Int) + 1) (by omega) (by omega), cast_succ]
      cases hr : vals 8589934592 r with
      | none => rw [hr] at ih; exact ih
      | some n =>
        rw [hr] at ih
        simp only [List.append_assoc, List.cons_append, List.nil_append] at ih
        exact ih
    · rw [if_neg hok]
      exact Ev.neg hok (Ev.now _)
theorem Parse4_prog (s : ByteArray) (hs : s.size ≤ 1000000000) : Ev (fun k => ip_Parse4.f k s) (P4 8589934592 (B s)) := by
  have hz := size_B s
  unfold P4
  by_cases h0 : 4000 < (B s).length
  · rw [if_pos h0]
    exact Ev.pos (by omega) (Ev.now _)
  · rw [if_neg h0]
    refine Ev.neg (by omega) (Ev.bnd (parts_prog s hs) ?_)
    by_cases h4 : 4 < (prts (B s)).length
    · rw [if_pos h4]
      exact Ev.pos (by rw [List.length_map]; omega) (Ev.now _)
    · rw [if_neg h4]
      refine Ev.neg (by rw [List.length_map]; omega) ?_
      exact p4_loop (prts (B s)) (by omega) (List.length_pos_iff.2 (prts_ne _)) (fun x hx => by have := prts_mem hx; omega) (prts (B s)) 0 [] rfl (by omega) rfl (fun _ h => by cases h)
theorem one_byte (c : UInt8) : strOfNums [((c.toNat : Nat) : Int)] = mk [c] := by
  apply B_inj
  rw [B_mk]
  show [UInt8.ofNat (((c.toNat : Int)).toNat)] = [c]
  rw [Int.toNat_natCast, UInt8.ofNat_toNat]
theorem dig_dec (j : Nat) (h : j < 10) : strOfNums [(wrap64 (48 + (j : Int))) % 256] = mk [Own.hexD j] := by
  have z : ∀ i : Fin 10, (wrap64 (48 + (i.val : Int))) % 256 = ((Own.hexD i.val).toNat : Int) := by decide +kernel
  rw [z ⟨j, h⟩, one_byte]
set_option maxRecDepth 100000 in
theorem dig_hex (j : Nat) (h : j < 16) : strOfNums [bt (⟨#[48, 49, 50, 51, 52, 53, 54, 55, 56, 57, 97, 98, 99, 100, 101, 102]⟩ : ByteArray) (j : Int)] = mk [Own.hexD j] := by
  have z : ∀ i : Fin 16, bt (⟨#[48, 49, 50, 51, 52, 53, 54, 55, 56, 57, 97, 98, 99, 100, 101, 102]⟩ : ByteArray) (i.val : Int) = ((Own.hexD i.val).toNat : Int) := by decide +kernel
  rw [z ⟨j, h⟩, one_byte]
theorem cons_mk (c : UInt8) (l : List UInt8) : mk [c] ++ mk l = mk (c :: l) := by apply B_inj; rw [B_append, B_mk, B_mk, B_mk]; rfl
theorem mk_size (l : List UInt8) : (mk l).size = l.length := by rw [size_B, B_mk]
theorem ne_text {l : List UInt8} (h : l ≠ []) : ¬ (mk l).toList = [] := fun q => h (by rw [toList_B, B_mk] at q; exact q)
theorem tm8 (n : Nat) : Int.tmod (n : Int) 8 = ((n % 8 : Nat) : Int) := rfl
theorem td8 (n : Nat) : Int.tdiv (n : Int) 8 = ((n / 8 : Nat) : Int) := rfl
theorem tm10 (n : Nat) : Int.tmod (n : Int) 10 = ((n % 10 : Nat) : Int) := rfl
theorem td10 (n : Nat) : Int.tdiv (n : Int) 10 = ((n / 10 : Nat) : Int) := rfl
theorem tm16 (n : Nat) : Int.tmod (n : Int) 16 = ((n % 16 : Nat) : Int) := rfl
theorem td16 (n : Nat) : Int.tdiv (n : Int) 16 = ((n / 16 : Nat) : Int) := rfl
theorem loop_dec (N : Int) (hN : 0 ≤ N ∧ N < 4294967296) (x4 x5 : ByteArray) {r : Bool} : ∀ (m n : Nat) (acc : List UInt8), n < m → n < 4294967296 → acc.length ≤ 1000 → (0 < n ∨ acc = []) → (bL 10 n ++ acc).length ≤ 1000 →
    Ev (fun k => sprlaw7_IpForms.l1 k N (mk (bL 10 n ++ acc)) x4 x5 (wrap64 N)) r → Ev (fun k => sprlaw7_IpForms.l0 k N (mk acc) x4 x5 (n : Int)) r
  | 0, n, acc, h, _, _, _, _, _ => by omega
  | m + 1, n, acc, h, hn, ha, h0, hl, z => by
    have hstep : ∀ {w : Bool}, Ev (fun k => sprlaw7_IpForms.l0 k N (mk (Own.hexD (n % 10) :: acc)) x4 x5 ((n / 10 : Nat) : Int)) w → Ev (fun k => sprlaw7_IpForms.l0 k N (mk acc) x4 x5 (n : Int)) w := fun {w} zz => by
      have key : Ev (fun k => (some (([(wrap64 (48 + (Int.tmod (n : Int) 10))) % 256] : List Int) : List Int)).bind fun y174 => (if (strOfNums y174).size + (mk acc).size ≤ 9223372036854775807 then (sprlaw7_IpForms.l0 k N ((strOfNums y174) ++ (mk acc)) x4 x5 (wrap64 (Int.tdiv (n : Int) 10))) else (none))) w := by
        refine Ev.bnd rfl ?_
        rw [tm10 n, dig_dec _ (Nat.mod_lt _ (by omega)), td10 n, wrap_id (by omega) (by omega), cons_mk]
        exact Ev.pos (by rw [mk_size, mk_size]; simp; omega) zz
      refine Ev.step (fun _ => sprlaw7_IpForms.l0.eq_2 ..) ?_
      by_cases hp : 0 < n
      · exact Ev.pos (by omega) key
      · rcases h0 with q | q
        · omega
        · subst q
          exact Ev.neg (by omega) (Ev.pos (by rw [toList_B, B_mk]) key)
    by_cases h10 : n < 10
    · have e : Own.hexD (n % 10) :: acc = bL 10 n ++ acc := by rw [bL_small h10, Nat.mod_eq_of_lt h10]; rfl
      apply hstep
      rw [e, show n / 10 = 0 by omega]
      refine Ev.step (fun _ => sprlaw7_IpForms.l0.eq_2 ..) (Ev.neg (by omega) (Ev.neg (ne_text (by simp [bL_ne])) z))
    · have e : bL 10 n ++ acc = bL 10 (n / 10) ++ (Own.hexD (n % 10) :: acc) := by rw [bL_big h10 (by omega), List.append_assoc]; rfl
      rw [e] at z hl
      exact hstep (loop_dec N hN x4 x5 m (n / 10) _ (by omega) (by omega) (by simp at hl ⊢; omega) (Or.inl (by omega)) hl z)
theorem loop_hex (N : Int) (hN : 0 ≤ N ∧ N < 4294967296) (x3 x5 : ByteArray) {r : Bool} : ∀ (m n : Nat) (acc : List UInt8), n < m → n < 4294967296 → acc.length ≤ 1000 → (0 < n ∨ acc = []) → (bL 16 n ++ acc).length ≤ 1000 →
    Ev (fun k => sprlaw7_IpForms.l2 k N x3 (mk (bL 16 n ++ acc)) x5 (wrap64 N)) r → Ev (fun k => sprlaw7_IpForms.l1 k N x3 (mk acc) x5 (n : Int)) r
  | 0, n, acc, h, _, _, _, _, _ => by omega
  | m + 1, n, acc, h, hn, ha, h0, hl, z => by
    have hstep : ∀ {w : Bool}, Ev (fun k => sprlaw7_IpForms.l1 k N x3 (mk (Own.hexD (n % 16) :: acc)) x5 ((n / 16 : Nat) : Int)) w → Ev (fun k => sprlaw7_IpForms.l1 k N x3 (mk acc) x5 (n : Int)) w := fun {w} zz => by
      have hm : n % 16 < 16 := Nat.mod_lt _ (by omega)
      have key : Ev (fun k => if 0 ≤ (Int.tmod (n : Int) 16) then (if (Int.tmod (n : Int) 16) < 16 then ((some (([bt (⟨#[48, 49, 50, 51, 52, 53, 54, 55, 56, 57, 97, 98, 99, 100, 101, 102]⟩ : ByteArray) (Int.tmod (n : Int) 16)] : List Int) : List Int)).bind fun y180 => (if (strOfNums y180).size + (mk acc).size ≤ 9223372036854775807 then (sprlaw7_IpForms.l1 k N x3 ((strOfNums y180) ++ (mk acc)) x5 (wrap64 (Int.tdiv (n : Int) 16))) else (none))) else (none)) else (none)) w := by
        rw [tm16 n]
        refine Ev.pos (by omega) (Ev.pos (by omega) (Ev.bnd rfl ?_))
        rw [dig_hex _ hm, td16 n, wrap_id (by omega) (by omega), cons_mk]
        exact Ev.pos (by rw [mk_size, mk_size]; simp; omega) zz
      refine Ev.step (fun _ => sprlaw7_IpForms.l1.eq_2 ..) ?_
      by_cases hp : 0 < n
      · exact Ev.pos (by omega) key
      · rcases h0 with q | q
        · omega
        · subst q
          exact Ev.neg (by omega) (Ev.pos (by rw [toList_B, B_mk]) key)
    by_cases h10 : n < 16
    · have e : Own.hexD (n % 16) :: acc = bL 16 n ++ acc := by rw [bL_small h10, Nat.mod_eq_of_lt h10]; rfl
      apply hstep
      rw [e, show n / 16 = 0 by omega]
      refine Ev.step (fun _ => sprlaw7_IpForms.l1.eq_2 ..) (Ev.neg (by omega) (Ev.neg (ne_text (by simp [bL_ne])) z))
    · have e : bL 16 n ++ acc = bL 16 (n / 16) ++ (Own.hexD (n % 16) :: acc) := by rw [bL_big h10 (by omega), List.append_assoc]; rfl
      rw [e] at z hl
      exact hstep (loop_hex N hN x3 x5 m (n / 16) _ (by omega) (by omega) (by simp at hl ⊢; omega) (Or.inl (by omega)) hl z)
def afterL (k : Nat) (x0 : Int) (x3 x4 x5 : ByteArray) : Option Bool := (ip_Parse4.f k x3).bind fun bt192 => (if 2 + x4.size ≤ 9223372036854775807 then ((ip_Parse4.f k ((⟨#[48, 120]⟩ : ByteArray) ++ x4)).bind fun bt194 => (if 1 + x5.size ≤ 9223372036854775807 then ((ip_Parse4.f k ((⟨#[48]⟩ : ByteArray) ++ x5)).bind fun bt196 => ((ip_Print4.f k x0).bind fun t198 => (if t198.size + 1 ≤ 9223372036854775807 then ((ip_Parse4.f k (t198 ++ (⟨#[46]⟩ : ByteArray))).bind fun bt199 => (if 4 + x3.size ≤ 9223372036854775807 then ((ip_Parse4.f k ((⟨#[50, 53, 54, 46]⟩ : ByteArray) ++ x3)).bind fun bt201 => ((ip_Parse4.f k (⟨#[52, 50, 57, 52, 57, 54, 55, 50, 57, 54]⟩ : ByteArray)).bind fun bt203 => ((ip_Parse4.f k (⟨#[49, 46, 50, 46, 51, 46, 52, 46, 53]⟩ : ByteArray)).bind fun bt205 => ((sprlaw7_first.f k).bind fun t207 => (if t207 = true then (if bt192.2 = 0 then (if bt194.2 = 0 then (if bt196.2 = 0 then (if bt199.2 = 0 then (if bt192.1 = x0 then (if bt194.1 = x0 then (if bt196.1 = x0 then (if bt199.1 = x0 then (if bt201.2 = 1 then (if bt203.2 = 1 then (some (bt205.2 == 4)) else (some false)) else (some false)) else (some false)) else (some false)) else (some false)) else (some false)) else (some false)) else (some false)) else (some false)) else (some false)) else (some false)))))) else (none))) else (none)))) else (none))) else (none))
theorem loop_oct (N : Int) (hN : 0 ≤ N ∧ N < 4294967296) (x3 x4 : ByteArray) {r : Bool} : ∀ (m n : Nat) (acc : List UInt8), n < m → n < 4294967296 → acc.length ≤ 1000 → (0 < n ∨ acc = []) → (bL 8 n ++ acc).length ≤ 1000 →
    Ev (fun k => afterL k N x3 x4 (mk (bL 8 n ++ acc))) r → Ev (fun k => sprlaw7_IpForms.l2 k N x3 x4 (mk acc) (n : Int)) r
  | 0, n, acc, h, _, _, _, _, _ => by omega
  | m + 1, n, acc, h, hn, ha, h0, hl, z => by
    have hstep : ∀ {w : Bool}, Ev (fun k => sprlaw7_IpForms.l2 k N x3 x4 (mk (Own.hexD (n % 8) :: acc)) ((n / 8 : Nat) : Int)) w → Ev (fun k => sprlaw7_IpForms.l2 k N x3 x4 (mk acc) (n : Int)) w := fun {w} zz => by
      have hm : n % 8 < 8 := Nat.mod_lt _ (by omega)
      have key : Ev (fun k => (some (([(wrap64 (48 + (Int.tmod (n : Int) 8))) % 256] : List Int) : List Int)).bind fun y186 => (if (strOfNums y186).size + (mk acc).size ≤ 9223372036854775807 then (sprlaw7_IpForms.l2 k N x3 x4 ((strOfNums y186) ++ (mk acc)) (wrap64 (Int.tdiv (n : Int) 8))) else (none))) w := by
        refine Ev.bnd rfl ?_
        rw [tm8 n, dig_dec _ (by omega), td8 n, wrap_id (by omega) (by omega), cons_mk]
        exact Ev.pos (by rw [mk_size, mk_size]; simp; omega) zz
      refine Ev.step (fun _ => sprlaw7_IpForms.l2.eq_2 ..) ?_
      by_cases hp : 0 < n
      · exact Ev.pos (by omega) key
      · rcases h0 with q | q
        · omega
        · subst q
          exact Ev.neg (by omega) (Ev.pos (by rw [toList_B, B_mk]) key)
    by_cases h10 : n < 8
    · have e : Own.hexD (n % 8) :: acc = bL 8 n ++ acc := by rw [bL_small h10, Nat.mod_eq_of_lt h10]; rfl
      apply hstep
      rw [e, show n / 8 = 0 by omega]
      refine Ev.step (fun _ => sprlaw7_IpForms.l2.eq_2 ..) (Ev.neg (by omega) (Ev.neg (ne_text (by simp [bL_ne])) z))
    · have e : bL 8 n ++ acc = bL 8 (n / 8) ++ (Own.hexD (n % 8) :: acc) := by rw [bL_big h10 (by omega), List.append_assoc]; rfl
      rw [e] at z hl
      exact hstep (loop_oct N hN x3 x4 m (n / 8) _ (by omega) (by omega) (by simp at hl ⊢; omega) (Or.inl (by omega)) hl z)
theorem P4_ev (s : ByteArray) (l : List UInt8) (hs : s = mk l) (hl : l.length ≤ 4000) {v : Int × Int} (hv : P4 8589934592 l = v) : Ev (fun k => ip_Parse4.f k s) v := by
  subst hs
  have z := Parse4_prog (mk l) (by rw [mk_size]; omega)
  rw [B_mk, hv] at z
  exact z
set_option maxRecDepth 100000 in
theorem great_no : ip_Parse4.f 60 (⟨#[52, 50, 57, 52, 57, 54, 55, 50, 57, 54]⟩ : ByteArray) = some (0, 1) := by kernel_rfl
set_option maxRecDepth 100000 in
theorem five_no : ip_Parse4.f 60 (⟨#[49, 46, 50, 46, 51, 46, 52, 46, 53]⟩ : ByteArray) = some (0, 4) := by kernel_rfl
theorem P4_256 (n : Nat) (hn : n < 4294967296) (hl : (bL 10 n).length ≤ 40) : P4 8589934592 (50 :: 53 :: 54 :: 46 :: bL 10 n) = (0, 1) := by
  have hd := no_dot (bL_all 10 (by omega) (n + 1) n (by omega))
  have hp : prts (50 :: 53 :: 54 :: 46 :: bL 10 n) = [[50, 53, 54], bL 10 n] := by
    unfold prts
    have e : (50 :: 53 :: 54 :: 46 :: bL 10 n) = [50, 53, 54] ++ 46 :: bL 10 n := rfl
    rw [e, spl_cut 46 _ _ (by decide), spl_whole 46 _ hd, if_neg (fun q => bL_ne 10 n (by simpa using q.2))]
  have h256 : partV 8589934592 [50, 53, 54] = (256, true) := by decide +kernel
  unfold P4
  rw [if_neg (by simp; omega), hp, if_neg (by simp)]
  have hv : vals 8589934592 [[50, 53, 54], bL 10 n] = some [256, (n : Int)] := by
    simp [vals, h256, partV_dec 8589934592 (by omega) n, mn_id (show (n : Int) ≤ 8589934592 by omega)]
  rw [hv]
  show (if (256 : Int) ≤ 255 ∧ (n : Int) < 16777216 then ((256 : Int) * 16777216 + (n : Int), (0 : Int)) else (0, 1)) = _
  rw [if_neg (by omega)]
theorem first_ev : Ev (fun k => sprlaw7_first.f k) true := ⟨0, fun _ _ => rfl⟩
theorem IpForms (N : Int) (hw : (Lit.int .u32 N).wf = true) : ∃ k, sprlaw7_IpForms.f k N = some true := by
  have hN := wf_u32 hw
  obtain ⟨n, rfl⟩ : ∃ n : Nat, N = (n : Int) := ⟨N.toNat, by omega⟩
  have hn : n < 4294967296 := by omega
  have l8 := bL_len 8 (by omega) 31 n (by omega)
  have l10 := bL_len 10 (by omega) 31 n (by omega)
  have l16 := bL_len 16 (by omega) 31 n (by omega)
  have hwr : wrap64 (n : Int) = (n : Int) := wrap_id (by omega) (by omega)
  have e0 : (⟨#[]⟩ : ByteArray) = mk [] := rfl
  refine Ev.rounds (g := fun k => sprlaw7_IpForms.f k (n : Int)) ?_
  unfold sprlaw7_IpForms.f
  refine Ev.bind first_ev (Ev.pos rfl ?_)
  rw [e0, hwr]
  refine loop_dec n hN _ _ (n + 1) n [] (by omega) hn (by simp) (Or.inr rfl) (by simp; omega) ?_
  rw [hwr]
  refine loop_hex n hN _ _ (n + 1) n [] (by omega) hn (by simp) (Or.inr rfl) (by simp; omega) ?_
  rw [hwr]
  refine loop_oct n hN _ _ (n + 1) n [] (by omega) hn (by simp) (Or.inr rfl) (by simp; omega) ?_
  rw [List.append_nil, List.append_nil, List.append_nil]
  have d10 := no_dot (bL_all 10 (by omega) (n + 1) n (by omega))
  have d16 := no_dot (bL_all 16 (by omega) (n + 1) n (by omega))
  have d8 := no_dot (bL_all 8 (by omega) (n + 1) n (by omega))
  have hmn : mn (n : Int) 8589934592 = (n : Int) := mn_id (by omega)
  have hone : fourV [(n : Int)] = ((n : Int), 0) := by show (if (n : Int) < 4294967296 then ((n : Int), (0 : Int)) else (0, 1)) = _; rw [if_pos (by omega)]
  unfold afterL
  refine Ev.bind (P4_ev _ _ rfl (by omega) (P4_one d10 (by omega) (by rw [partV_dec _ (by omega), hmn]))) ?_
  refine Ev.pos (by rw [mk_size]; omega) (Ev.bind (P4_ev _ (48 :: 120 :: bL 16 n) (by apply B_inj; rw [B_append, B_mk, B_mk]; rfl) (by simp; omega) (P4_one (fun q => by
    rcases List.mem_cons.1 q with q | q
    · cases q
    · rcases List.mem_cons.1 q with q | q
      · cases q
      · exact d16 q) (by simp; omega) (by rw [partV_hex _ (by omega), hmn]))) ?_)
  refine Ev.pos (by rw [mk_size]; omega) (Ev.bind (P4_ev _ (48 :: bL 8 n) (by apply B_inj; rw [B_append, B_mk, B_mk]; rfl) (by simp; omega) (P4_one (fun q => by
    rcases List.mem_cons.1 q with q | q
    · cases q
    · exact d8 q) (by simp; omega) (by rw [partV_oct _ (by omega), hmn]))) ?_)
  have hp4 : (pr4 (n : Int)).length ≤ 1000 := by
    unfold pr4
    have h0 := dec_len3 n 0; have h1 := dec_len3 n 1; have h2 := dec_len3 n 2; have h3 := dec_len3 n 3
    simp only [List.length_append, List.length_cons]; omega
  refine Ev.bind (Print4_prog n hN) (Ev.pos (by rw [mk_size]; omega) (Ev.bind (P4_ev _ (pr4 n ++ [46]) (by apply B_inj; rw [B_append, B_mk, B_mk]; rfl) (by rw [List.length_append]; simp; omega) (P4_pr4 n hN [46] (Or.inr rfl))) ?_))
  refine Ev.pos (by rw [mk_size]; omega) (Ev.bind (P4_ev _ (50 :: 53 :: 54 :: 46 :: bL 10 n) (by apply B_inj; rw [B_append, B_mk, B_mk]; rfl) (by simp; omega) (P4_256 n hn (by omega))) ?_)
  refine Ev.bind (Ev.of (ip_Parse4.mono _) great_no) (Ev.bind (Ev.of (ip_Parse4.mono _) five_no) (Ev.bind first_ev (Ev.pos rfl ?_)))
  rw [hone]
  exact Ev.pos rfl (Ev.pos rfl (Ev.pos rfl (Ev.pos rfl (Ev.pos rfl (Ev.pos rfl (Ev.pos rfl (Ev.pos rfl (Ev.pos rfl (Ev.pos rfl (Ev.now _))))))))))

end Go.Proofs.YtldkhokpedfhdaaDoor.Pure
