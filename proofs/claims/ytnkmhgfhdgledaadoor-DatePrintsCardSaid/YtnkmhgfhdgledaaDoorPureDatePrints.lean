/-
sprlaw15.DatePrints, for every second and all parts of a time: the program and the document write the same text with the same mark, and make the same second of the parts.
-/
import Derived.Test.YtnkmhgfhdgledaaDoorR10
set_option linter.unusedVariables false
set_option linter.unusedSimpArgs false
namespace Go.Proofs.YtnkmhgfhdgledaaDoor.Pure
open Go.RowKit Go.Proofs.YtnkmhgfhdgledaaDoor.R Go.Proofs.YtnkmhgfhdgledaaDoorW.PrintWords Go.Proofs.YtnkmhgfhdgledaaDoorW.PrintLast
theorem wrap_id {x : Int} (h0 : -9223372036854775808 ≤ x) (h1 : x ≤ 9223372036854775807) : wrap64 x = x := by unfold wrap64; omega
theorem Ev.succ {α : Type} {g : Nat → Option α} {r : α} (h : Ev (fun k => g (k + 1)) r) : Ev g r := Ev.step (fun _ => rfl) h
theorem Ev.konst {α : Type} {o : Option α} {r : α} (h : o = some r) : Ev (fun _ => o) r := ⟨0, fun _ _ => h⟩
theorem Ev.at {α : Type} {g : Nat → Option α} {r : α} (K : Nat) (h : ∀ k, g (k + K) = some r) : Ev g r := ⟨K, fun n hn => by
  obtain ⟨m, rfl⟩ : ∃ m, n = m + K := ⟨n - K, by omega⟩
  exact h m⟩
theorem drop_cons {α : Type} {l : List α} {i : Nat} {c : α} {t : List α} (h : l.drop i = c :: t) : i < l.length ∧ l[i]? = some c ∧ l.drop (i + 1) = t := by
  have h1 : (l.drop i)[0]? = some c := by rw [h]; rfl
  rw [List.getElem?_drop] at h1
  simp only [Nat.add_zero] at h1
  refine ⟨(List.getElem?_eq_some_iff.1 h1).1, h1, ?_⟩
  rw [← List.drop_drop, h]; rfl
theorem drop_nil {α : Type} {l : List α} {i : Nat} (h : l.drop i = []) : l.length ≤ i := by
  simpa using h
theorem rd_of {l : List Int} {i : Nat} {c : Int} (h : l[i]? = some c) : rd l (i : Int) = c := by
  unfold rd; rw [Int.toNat_natCast, List.getD_eq_getElem?_getD, h]; rfl
theorem rdOf_of {α : Type} {d : α} {l : List α} {i : Nat} {c : α} (h : l[i]? = some c) : rdOf d l (i : Int) = c := by
  unfold rdOf; rw [Int.toNat_natCast, List.getD_eq_getElem?_getD, h]; rfl
theorem cast_succ (i : Nat) : ((i : Int) + 1) = ((i + 1 : Nat) : Int) := by omega
theorem Ev.pos {α : Type} {c : Prop} [Decidable c] {A B : Nat → Option α} {r : α} (h : c) (k : Ev A r) : Ev (fun n => if c then A n else B n) r := Ev.congr (fun _ => if_pos h) k
theorem Ev.neg {α : Type} {c : Prop} [Decidable c] {A B : Nat → Option α} {r : α} (h : ¬ c) (k : Ev B r) : Ev (fun n => if c then A n else B n) r := Ev.congr (fun _ => if_neg h) k
theorem Ev.bnd {α β : Type} {o : Option β} {a : β} {f : Nat → β → Option α} {r : α} (h : o = some a) (k : Ev (fun n => f n a) r) : Ev (fun n => o.bind (f n)) r := by
  subst h; exact k
/-- A text's bytes. -/
def B (s : ByteArray) : List UInt8 := s.data.toList
def mk (l : List UInt8) : ByteArray := ⟨l.toArray⟩
theorem B_mk (l : List UInt8) : B (mk l) = l := rfl
theorem mk_B (s : ByteArray) : mk (B s) = s := rfl
theorem B_inj {s t : ByteArray} (h : B s = B t) : s = t := by rw [← mk_B s, ← mk_B t, h]
theorem toList_B (s : ByteArray) : s.toList = B s := Lib.toList_data s
theorem size_B (s : ByteArray) : s.size = (B s).length := Lib.size_eq s
theorem B_extract (s : ByteArray) (a b : Nat) : B (s.extract a b) = ((B s).drop a).take (b - a) := Lib.extract_data s a b
theorem B_append (s t : ByteArray) : B (s ++ t) = B s ++ B t := by
  unfold B
  rw [ByteArray.data_append, Array.toList_append]
theorem B_to (s : ByteArray) (n : Nat) : B (s.extract 0 n) = (B s).take n := by rw [B_extract, List.drop_zero, Nat.sub_zero]
theorem B_from (s : ByteArray) (n : Nat) : B (s.extract n s.size) = (B s).drop n := by
  rw [B_extract, size_B]
  exact List.take_of_length_le (by rw [List.length_drop]; omega)
theorem bt_of {s : ByteArray} {i : Nat} {c : UInt8} (h : (B s)[i]? = some c) : bt s (i : Int) = (c.toNat : Int) := by
  unfold bt
  have hi : i < s.size := by rw [size_B]; exact (List.getElem?_eq_some_iff.1 h).1
  rw [Int.toNat_natCast, dif_pos hi]
  have : (s[i]'hi) = c := by
    have h1 : (B s)[i]? = some (s[i]'hi) := by
      unfold B
      rw [Array.getElem?_toList]
      exact Array.getElem?_eq_getElem _
    rw [h1] at h
    exact Option.some.inj h
  rw [this]
/-- The byte that a suffix begins with. -/
theorem bt_drop {s : ByteArray} {i : Nat} {c : UInt8} {t : List UInt8} (h : (B s).drop i = c :: t) : bt s (i : Int) = (c.toNat : Int) ∧ i < s.size ∧ (B s).drop (i + 1) = t := by
  obtain ⟨h1, h2, h3⟩ := drop_cons h
  exact ⟨bt_of h2, by rw [size_B]; exact h1, h3⟩
theorem end_drop {s : ByteArray} {i : Nat} (h : (B s).drop i = []) : s.size ≤ i := by rw [size_B]; exact drop_nil h
theorem u8_eq (c : UInt8) (n : Nat) (h : n < 256) : ((c.toNat : Int) = (n : Int)) ↔ c = UInt8.ofNat n := by
  constructor
  · intro e
    have e' : c.toNat = n := by omega
    rw [← e']; exact (UInt8.ofNat_toNat).symm
  · intro e
    rw [e, UInt8.toNat_ofNat']
    have : n % 2 ^ 8 = n := Nat.mod_eq_of_lt h
    omega
theorem u8_lt (c : UInt8) : (c.toNat : Int) < 256 ∧ 0 ≤ (c.toNat : Int) := by
  have := UInt8.toNat_lt c
  omega
theorem rd_at {M : List ByteArray} {L : List (List UInt8)} (e : M.map B = L) (i : Nat) (h : i < L.length) : rdOf ByteArray.empty M (i : Int) = mk (L.getD i []) ∧ (i : Int) < (M.length : Int) := by
  have hl : M.length = L.length := by rw [← e, List.length_map]
  refine ⟨?_, by omega⟩
  apply B_inj
  unfold rdOf
  rw [Int.toNat_natCast, B_mk, ← e, List.getD_eq_getElem?_getD, List.getD_eq_getElem?_getD, List.getElem?_map, List.getElem?_eq_getElem (show i < M.length by omega)]
  rfl
theorem z1 : (⟨#[44, 32]⟩ : ByteArray).size = 2 := rfl
theorem z2 : (⟨#[32]⟩ : ByteArray).size = 1 := rfl
theorem z3 : (⟨#[58]⟩ : ByteArray).size = 1 := rfl
theorem z4 : (⟨#[32, 71, 77, 84]⟩ : ByteArray).size = 4 := rfl
theorem mk_size (l : List UInt8) : (mk l).size = l.length := size_B (mk l)
def numV : List UInt8 → Int → Int
  | [], n => n
  | c :: t, n => if (c.toNat : Int) < 48 then -1 else if (c.toNat : Int) > 57 then -1 else numV t (n * 10 + ((c.toNat : Int) - 48))
/-- So many digits, as a number; -1: they are none. -/
def num (l : List UInt8) (w : Nat) : Int := if l.length = w then numV l 0 else -1
theorem numV_facts : ∀ (t : List UInt8) (n : Int), 0 ≤ n → 0 ≤ numV t n → (∀ c ∈ t, 48 ≤ c.toNat ∧ c.toNat ≤ 57) ∧ numV t n < (n + 1) * 10 ^ t.length
  | [], n, h0, h => by simp [numV]; omega
  | c :: t, n, h0, h => by
    unfold numV at h ⊢
    by_cases a : (c.toNat : Int) < 48
    · rw [if_pos a] at h; omega
    · rw [if_neg a] at h ⊢
      by_cases b : (c.toNat : Int) > 57
      · rw [if_pos b] at h; omega
      · rw [if_neg b] at h ⊢
        obtain ⟨h1, h2⟩ := numV_facts t _ (by omega) h
        refine ⟨fun x hx => ?_, ?_⟩
        · rcases List.mem_cons.1 hx with rfl | q
          · omega
          · exact h1 x q
        · rw [List.length_cons, Int.pow_succ, Int.mul_comm (10 ^ t.length) 10, ← Int.mul_assoc]
          refine Int.lt_of_lt_of_le h2 (Int.mul_le_mul_of_nonneg_right (by omega) (Int.pow_nonneg (by omega)))
theorem num_facts {l : List UInt8} {w : Nat} (h : 0 ≤ num l w) : l.length = w ∧ (∀ c ∈ l, 48 ≤ c.toNat ∧ c.toNat ≤ 57) ∧ num l w < 10 ^ w := by
  unfold num at h ⊢
  by_cases e : l.length = w
  · rw [if_pos e] at h ⊢
    obtain ⟨a, b⟩ := numV_facts l 0 (by omega) h
    rw [e] at b
    exact ⟨e, a, by simpa using b⟩
  · rw [if_neg e] at h; omega
theorem digit_ne {l : List UInt8} (h : ∀ c ∈ l, 48 ≤ c.toNat ∧ c.toNat ≤ 57) (d : UInt8) (hd : d.toNat < 48 ∨ 57 < d.toNat) : d ∉ l := fun e => by
  have := h d e; omega
theorem num_ge (l : List UInt8) (w : Nat) : -1 ≤ num l w := by
  unfold num
  split
  · have : ∀ (t : List UInt8) (n : Int), 0 ≤ n → -1 ≤ numV t n := by
      intro t
      induction t with
      | nil => intro n h; simp [numV]; omega
      | cons c t ih =>
        intro n h
        unfold numV
        split
        · omega
        · split
          · omega
          · exact ih _ (by omega)
    exact this l 0 (by omega)
  · omega
theorem pow_small (n : Nat) (t : List UInt8) {x : Int} (h0 : 0 ≤ x) (h : (x + 1) * 10 ^ t.length ≤ 1000000000000000000) : x < 1000000000000000000 := by
  have : (0 : Int) < 10 ^ t.length := Int.pow_pos (by omega)
  have : x + 1 ≤ (x + 1) * 10 ^ t.length := by
    have := Int.mul_le_mul_of_nonneg_left (show (1 : Int) ≤ 10 ^ t.length by omega) (show 0 ≤ x + 1 by omega)
    omega
  omega
theorem ten_pow {w : Nat} (h : w ≤ 18) : (10 : Int) ^ w ≤ 1000000000000000000 := by
  have h1 := Nat.pow_le_pow_right (show 0 < 10 by omega) h
  have h2 : ((10 ^ w : Nat) : Int) = (10 : Int) ^ w := by rw [Int.natCast_pow]; rfl
  omega
theorem num_next {n d : Int} {t : List UInt8} {c : UInt8} (h : (n + 1) * 10 ^ (c :: t).length ≤ 1000000000000000000) (hd : d ≤ 9) : (n * 10 + d + 1) * 10 ^ t.length ≤ 1000000000000000000 := by
  refine Int.le_trans ?_ h
  rw [List.length_cons, Int.pow_succ, Int.mul_comm (10 ^ t.length) 10, ← Int.mul_assoc]
  exact Int.mul_le_mul_of_nonneg_right (by omega) (Int.pow_nonneg (by omega))
/-- A number's last two digits. -/
def dg2 (n : Nat) : List UInt8 := [UInt8.ofNat (48 + n / 10 % 10), UInt8.ofNat (48 + n % 10)]
def dg4 (n : Nat) : List UInt8 := dg2 (n / 100) ++ dg2 n
theorem dg2_len (n : Nat) : (dg2 n).length = 2 := rfl
theorem dg4_len (n : Nat) : (dg4 n).length = 4 := rfl
theorem dig_val (n : Nat) : ((UInt8.ofNat (48 + n % 10)).toNat : Int) = 48 + ((n % 10 : Nat) : Int) := by
  rw [UInt8.toNat_ofNat']
  omega
theorem numV_dig (n : Nat) (t : List UInt8) (x : Int) : numV (UInt8.ofNat (48 + n % 10) :: t) x = numV t (x * 10 + ((n % 10 : Nat) : Int)) := by
  have := dig_val n
  rw [numV, this, if_neg (by omega), if_neg (by omega)]
  congr 1
  omega
theorem num_dg2 (n : Nat) (h : n < 100) : num (dg2 n) 2 = n := by
  unfold num
  rw [if_pos (show (dg2 n).length = 2 from rfl)]
  unfold dg2
  rw [numV_dig, numV_dig, numV]
  omega
theorem num_dg4 (n : Nat) (h : n < 10000) : num (dg4 n) 4 = n := by
  unfold num
  rw [if_pos (show (dg4 n).length = 4 from rfl)]
  show numV [UInt8.ofNat (48 + n / 100 / 10 % 10), UInt8.ofNat (48 + n / 100 % 10), UInt8.ofNat (48 + n / 10 % 10), UInt8.ofNat (48 + n % 10)] 0 = n
  rw [numV_dig, numV_dig, numV_dig, numV_dig, numV]
  omega
theorem dig_ne (n : Nat) (d : UInt8) (hd : d.toNat < 48 ∨ 57 < d.toNat) : UInt8.ofNat (48 + n % 10) ≠ d := fun e => by
  have := dig_val n
  rw [e] at this
  omega
/-- A text cut at a byte. -/
def spl (c : UInt8) : List UInt8 → List (List UInt8)
  | [] => [[]]
  | b :: t => if b = c then [] :: spl c t else (b :: (spl c t).headD []) :: (spl c t).tail
theorem spl_ne (c : UInt8) (l : List UInt8) : spl c l ≠ [] := by
  cases l with
  | nil => simp [spl]
  | cons b t => unfold spl; split <;> simp
theorem spl_whole (c : UInt8) : ∀ p : List UInt8, c ∉ p → spl c p = [p]
  | [], _ => rfl
  | b :: t, h => by
    have hb : b ≠ c := fun e => h (by simp [e])
    rw [spl, if_neg hb, spl_whole c t (fun e => h (by simp [e]))]; rfl
theorem spl_cut (c : UInt8) (r : List UInt8) : ∀ p : List UInt8, c ∉ p → spl c (p ++ c :: r) = p :: spl c r
  | [], _ => by simp [spl]
  | b :: t, h => by
    have hb : b ≠ c := fun e => h (by simp [e])
    rw [List.cons_append, spl, if_neg hb, spl_cut c r t (fun e => h (by simp [e]))]; rfl
theorem spl_one (c : UInt8) : ∀ l p : List UInt8, spl c l = [p] → l = p ∧ c ∉ p
  | [], p, h => by simp [spl] at h; subst h; simp
  | b :: t, p, h => by
    unfold spl at h
    split at h
    · injection h with h1 h2; exact absurd h2 (spl_ne c t)
    · rename_i hb
      injection h with h1 h2
      have ht : spl c t = [(spl c t).headD []] := by
        cases hs : spl c t with
        | nil => exact absurd hs (spl_ne c t)
        | cons a r => rw [hs] at h2; simp at h2; rw [h2]; rfl
      obtain ⟨e1, e2⟩ := spl_one c t _ ht
      rw [← h1]
      refine ⟨by rw [← e1], ?_⟩
      intro e
      rcases List.mem_cons.1 e with q | q
      · exact hb q.symm
      · exact e2 q
theorem spl_more (c : UInt8) : ∀ l p q r, spl c l = p :: q :: r → ∃ m, l = p ++ c :: m ∧ c ∉ p ∧ spl c m = q :: r
  | [], p, q, r, h => by simp [spl] at h
  | b :: t, p, q, r, h => by
    unfold spl at h
    split at h
    · rename_i hb
      injection h with h1 h2
      exact ⟨t, by rw [← h1, hb]; rfl, by rw [← h1]; simp, h2⟩
    · rename_i hb
      injection h with h1 h2
      have ht : spl c t = (spl c t).headD [] :: q :: r := by
        cases hs : spl c t with
        | nil => exact absurd hs (spl_ne c t)
        | cons a r' => rw [hs] at h2; simp at h2; rw [h2]; rfl
      obtain ⟨m, e1, e2, e3⟩ := spl_more c t _ q r ht
      refine ⟨m, by rw [← h1, List.cons_append, ← e1], ?_, e3⟩
      rw [← h1]
      intro e
      rcases List.mem_cons.1 e with q | q
      · exact hb q.symm
      · exact e2 q
theorem spl3 {c : UInt8} {l p0 p1 p2 : List UInt8} (h : spl c l = [p0, p1, p2]) : l = p0 ++ c :: (p1 ++ c :: p2) ∧ c ∉ p0 ∧ c ∉ p1 ∧ c ∉ p2 := by
  obtain ⟨m, rfl, h0, h⟩ := spl_more c _ _ _ _ h
  obtain ⟨m, rfl, h1, h⟩ := spl_more c _ _ _ _ h
  obtain ⟨rfl, h2⟩ := spl_one c _ _ h
  exact ⟨rfl, h0, h1, h2⟩
theorem spl3' {c : UInt8} {p0 p1 p2 : List UInt8} (h0 : c ∉ p0) (h1 : c ∉ p1) (h2 : c ∉ p2) : spl c (p0 ++ c :: (p1 ++ c :: p2)) = [p0, p1, p2] := by
  rw [spl_cut c _ _ h0, spl_cut c _ _ h1, spl_whole c _ h2]
theorem spl4 {c : UInt8} {l p0 p1 p2 p3 : List UInt8} (h : spl c l = [p0, p1, p2, p3]) : l = p0 ++ c :: (p1 ++ c :: (p2 ++ c :: p3)) ∧ c ∉ p0 ∧ c ∉ p1 ∧ c ∉ p2 ∧ c ∉ p3 := by
  obtain ⟨m, rfl, h0, h⟩ := spl_more c _ _ _ _ h
  obtain ⟨rfl, q⟩ := spl3 h
  exact ⟨rfl, h0, q⟩
theorem spl4' {c : UInt8} {p0 p1 p2 p3 : List UInt8} (h0 : c ∉ p0) (h1 : c ∉ p1) (h2 : c ∉ p2) (h3 : c ∉ p3) : spl c (p0 ++ c :: (p1 ++ c :: (p2 ++ c :: p3))) = [p0, p1, p2, p3] := by
  rw [spl_cut c _ _ h0, spl3' h1 h2 h3]
theorem spl6 {c : UInt8} {l p0 p1 p2 p3 p4 p5 : List UInt8} (h : spl c l = [p0, p1, p2, p3, p4, p5]) : l = p0 ++ c :: (p1 ++ c :: (p2 ++ c :: (p3 ++ c :: (p4 ++ c :: p5)))) ∧ c ∉ p0 ∧ c ∉ p1 ∧ c ∉ p2 ∧ c ∉ p3 ∧ c ∉ p4 ∧ c ∉ p5 := by
  obtain ⟨m, rfl, h0, h⟩ := spl_more c _ _ _ _ h
  obtain ⟨m, rfl, h1, h⟩ := spl_more c _ _ _ _ h
  obtain ⟨rfl, q⟩ := spl4 h
  exact ⟨rfl, h0, h1, q⟩
theorem spl6' {c : UInt8} {p0 p1 p2 p3 p4 p5 : List UInt8} (h0 : c ∉ p0) (h1 : c ∉ p1) (h2 : c ∉ p2) (h3 : c ∉ p3) (h4 : c ∉ p4) (h5 : c ∉ p5) : spl c (p0 ++ c :: (p1 ++ c :: (p2 ++ c :: (p3 ++ c :: (p4 ++ c :: p5))))) = [p0, p1, p2, p3, p4, p5] := by
  rw [spl_cut c _ _ h0, spl_cut c _ _ h1, spl4' h2 h3 h4 h5]
theorem spl_hd (c : UInt8) : ∀ (p r : List UInt8), c ∉ p → (spl c (p ++ c :: r)).head? = some p := fun p r h => by rw [spl_cut c r p h]; rfl
theorem splK_cons (c b : UInt8) (h : b ≠ c) : ∀ (k : Nat) (t : List UInt8), Lib.splitK [c] 0 k (b :: t) = (b :: (Lib.splitK [c] 0 k t).headD []) :: (Lib.splitK [c] 0 k t).tail
  | 0, t => rfl
  | k + 1, t => by
    have hp : ([c] : List UInt8).isPrefixOf (b :: t) = false := by simp [List.isPrefixOf, Ne.symm h]
    have hix : Lib.index (b :: t) [c] = if Lib.index t [c] == -1 then -1 else Lib.index t [c] + 1 := by rw [Lib.index, hp]; simp
    have hge := Lib.index_ge t [c]
    unfold Lib.splitK
    rw [hix]
    by_cases hm : Lib.index t [c] = -1
    · simp [hm]
    · have e1 : (Lib.index t [c] == -1) = false := by simpa using hm
      have e2 : (Lib.index t [c] + 1 == -1) = false := by simp; omega
      obtain ⟨j, hj⟩ : ∃ j : Nat, Lib.index t [c] = j := ⟨(Lib.index t [c]).toNat, by omega⟩
      rw [e1]
      simp only [Bool.false_eq_true, if_false]
      rw [e2]
      simp only [Bool.false_eq_true, if_false, hj, List.headD_cons, List.tail_cons, List.length_singleton]
      have e3 : ((j : Int) + 1).toNat = j + 1 := by omega
      rw [e3, Int.toNat_natCast]
      rfl
theorem splK_eq (c : UInt8) : ∀ l : List UInt8, Lib.splitK [c] 0 (Lib.count l [c]) l = spl c l
  | [] => by
    have : Lib.index [] [c] = -1 := rfl
    rw [Lib.count_miss this]; rfl
  | b :: t => by
    by_cases h : b = c
    · subst h
      have hix : Lib.index (b :: t) [b] = 0 := by rw [Lib.index]; simp [List.isPrefixOf]
      rw [Lib.count_cons_eq, Nat.add_comm, Lib.splitK, hix, spl, if_pos rfl, ← splK_eq b t]
      rfl
    · rw [Lib.count_cons_ne b c t h, splK_cons c b h, splK_eq c t, spl, if_neg h]
theorem splB_eq (c : UInt8) (s : ByteArray) : Lib.splitB (⟨#[c]⟩ : ByteArray) 0 (Lib.countB s (⟨#[c]⟩ : ByteArray)) s = (spl c (B s)).map mk := by
  have h := Lib.splitB_data (⟨#[c]⟩ : ByteArray) 0 (Lib.countB s (⟨#[c]⟩ : ByteArray)) s
  have e : Lib.splitK [c] 0 (Lib.countB s (⟨#[c]⟩ : ByteArray)) s.data.toList = spl c (B s) := splK_eq c (B s)
  rw [← e]
  have h2 : ∀ l : List ByteArray, l = (l.map (·.data.toList)).map mk := fun l => by
    rw [List.map_map]; simp [Function.comp_def, mk]
  rw [h2 (Lib.splitB _ _ _ _), h]
theorem len_cons {α : Type} {l : List α} {n : Nat} (h : l.length = n + 1) : ∃ a t, l = a :: t ∧ t.length = n := by
  cases l with
  | nil => simp at h
  | cons a t => exact ⟨a, t, rfl, by simpa using h⟩
theorem len2 {α : Type} {l0 : List α} (h0 : l0.length = 2) : ∃ a0 a1, l0 = [a0, a1] := by
  obtain ⟨a0, l1, rfl, h1⟩ := len_cons h0
  obtain ⟨a1, l2, rfl, h2⟩ := len_cons h1
  obtain rfl : l2 = [] := List.eq_nil_of_length_eq_zero h2
  exact ⟨_, _, rfl⟩
theorem len3 {α : Type} {l0 : List α} (h0 : l0.length = 3) : ∃ a0 a1 a2, l0 = [a0, a1, a2] := by
  obtain ⟨a0, l1, rfl, h1⟩ := len_cons h0
  obtain ⟨a1, l2, rfl, h2⟩ := len_cons h1
  obtain ⟨a2, l3, rfl, h3⟩ := len_cons h2
  obtain rfl : l3 = [] := List.eq_nil_of_length_eq_zero h3
  exact ⟨_, _, _, rfl⟩
theorem len4 {α : Type} {l0 : List α} (h0 : l0.length = 4) : ∃ a0 a1 a2 a3, l0 = [a0, a1, a2, a3] := by
  obtain ⟨a0, l1, rfl, h1⟩ := len_cons h0
  obtain ⟨a1, l2, rfl, h2⟩ := len_cons h1
  obtain ⟨a2, l3, rfl, h3⟩ := len_cons h2
  obtain ⟨a3, l4, rfl, h4⟩ := len_cons h3
  obtain rfl : l4 = [] := List.eq_nil_of_length_eq_zero h4
  exact ⟨_, _, _, _, rfl⟩
theorem len8 {α : Type} {l0 : List α} (h0 : l0.length = 8) : ∃ a0 a1 a2 a3 a4 a5 a6 a7, l0 = [a0, a1, a2, a3, a4, a5, a6, a7] := by
  obtain ⟨a0, l1, rfl, h1⟩ := len_cons h0
  obtain ⟨a1, l2, rfl, h2⟩ := len_cons h1
  obtain ⟨a2, l3, rfl, h3⟩ := len_cons h2
  obtain ⟨a3, l4, rfl, h4⟩ := len_cons h3
  obtain ⟨a4, l5, rfl, h5⟩ := len_cons h4
  obtain ⟨a5, l6, rfl, h6⟩ := len_cons h5
  obtain ⟨a6, l7, rfl, h7⟩ := len_cons h6
  obtain ⟨a7, l8, rfl, h8⟩ := len_cons h7
  obtain rfl : l8 = [] := List.eq_nil_of_length_eq_zero h8
  exact ⟨_, _, _, _, _, _, _, _, rfl⟩
theorem len24 {α : Type} {l0 : List α} (h0 : l0.length = 24) : ∃ a0 a1 a2 a3 a4 a5 a6 a7 a8 a9 a10 a11 a12 a13 a14 a15 a16 a17 a18 a19 a20 a21 a22 a23, l0 = [a0, a1, a2, a3, a4, a5, a6, a7, a8, a9, a10, a11, a12, a13, a14, a15, a16, a17, a18, a19, a20, a21, a22, a23] := by
  obtain ⟨a0, l1, rfl, h1⟩ := len_cons h0
  obtain ⟨a1, l2, rfl, h2⟩ := len_cons h1
  obtain ⟨a2, l3, rfl, h3⟩ := len_cons h2
  obtain ⟨a3, l4, rfl, h4⟩ := len_cons h3
  obtain ⟨a4, l5, rfl, h5⟩ := len_cons h4
  obtain ⟨a5, l6, rfl, h6⟩ := len_cons h5
  obtain ⟨a6, l7, rfl, h7⟩ := len_cons h6
  obtain ⟨a7, l8, rfl, h8⟩ := len_cons h7
  obtain ⟨a8, l9, rfl, h9⟩ := len_cons h8
  obtain ⟨a9, l10, rfl, h10⟩ := len_cons h9
  obtain ⟨a10, l11, rfl, h11⟩ := len_cons h10
  obtain ⟨a11, l12, rfl, h12⟩ := len_cons h11
  obtain ⟨a12, l13, rfl, h13⟩ := len_cons h12
  obtain ⟨a13, l14, rfl, h14⟩ := len_cons h13
  obtain ⟨a14, l15, rfl, h15⟩ := len_cons h14
  obtain ⟨a15, l16, rfl, h16⟩ := len_cons h15
  obtain ⟨a16, l17, rfl, h17⟩ := len_cons h16
  obtain ⟨a17, l18, rfl, h18⟩ := len_cons h17
  obtain ⟨a18, l19, rfl, h19⟩ := len_cons h18
  obtain ⟨a19, l20, rfl, h20⟩ := len_cons h19
  obtain ⟨a20, l21, rfl, h21⟩ := len_cons h20
  obtain ⟨a21, l22, rfl, h22⟩ := len_cons h21
  obtain ⟨a22, l23, rfl, h23⟩ := len_cons h22
  obtain ⟨a23, l24, rfl, h24⟩ := len_cons h23
  obtain rfl : l24 = [] := List.eq_nil_of_length_eq_zero h24
  exact ⟨_, _, _, _, _, _, _, _, _, _, _, _, _, _, _, _, _, _, _, _, _, _, _, _, rfl⟩
theorem len29 {α : Type} {l0 : List α} (h0 : l0.length = 29) : ∃ a0 a1 a2 a3 a4 a5 a6 a7 a8 a9 a10 a11 a12 a13 a14 a15 a16 a17 a18 a19 a20 a21 a22 a23 a24 a25 a26 a27 a28, l0 = [a0, a1, a2, a3, a4, a5, a6, a7, a8, a9, a10, a11, a12, a13, a14, a15, a16, a17, a18, a19, a20, a21, a22, a23, a24, a25, a26, a27, a28] := by
  obtain ⟨a0, l1, rfl, h1⟩ := len_cons h0
  obtain ⟨a1, l2, rfl, h2⟩ := len_cons h1
  obtain ⟨a2, l3, rfl, h3⟩ := len_cons h2
  obtain ⟨a3, l4, rfl, h4⟩ := len_cons h3
  obtain ⟨a4, l5, rfl, h5⟩ := len_cons h4
  obtain ⟨a5, l6, rfl, h6⟩ := len_cons h5
  obtain ⟨a6, l7, rfl, h7⟩ := len_cons h6
  obtain ⟨a7, l8, rfl, h8⟩ := len_cons h7
  obtain ⟨a8, l9, rfl, h9⟩ := len_cons h8
  obtain ⟨a9, l10, rfl, h10⟩ := len_cons h9
  obtain ⟨a10, l11, rfl, h11⟩ := len_cons h10
  obtain ⟨a11, l12, rfl, h12⟩ := len_cons h11
  obtain ⟨a12, l13, rfl, h13⟩ := len_cons h12
  obtain ⟨a13, l14, rfl, h14⟩ := len_cons h13
  obtain ⟨a14, l15, rfl, h15⟩ := len_cons h14
  obtain ⟨a15, l16, rfl, h16⟩ := len_cons h15
  obtain ⟨a16, l17, rfl, h17⟩ := len_cons h16
  obtain ⟨a17, l18, rfl, h18⟩ := len_cons h17
  obtain ⟨a18, l19, rfl, h19⟩ := len_cons h18
  obtain ⟨a19, l20, rfl, h20⟩ := len_cons h19
  obtain ⟨a20, l21, rfl, h21⟩ := len_cons h20
  obtain ⟨a21, l22, rfl, h22⟩ := len_cons h21
  obtain ⟨a22, l23, rfl, h23⟩ := len_cons h22
  obtain ⟨a23, l24, rfl, h24⟩ := len_cons h23
  obtain ⟨a24, l25, rfl, h25⟩ := len_cons h24
  obtain ⟨a25, l26, rfl, h26⟩ := len_cons h25
  obtain ⟨a26, l27, rfl, h27⟩ := len_cons h26
  obtain ⟨a27, l28, rfl, h28⟩ := len_cons h27
  obtain ⟨a28, l29, rfl, h29⟩ := len_cons h28
  obtain rfl : l29 = [] := List.eq_nil_of_length_eq_zero h29
  exact ⟨_, _, _, _, _, _, _, _, _, _, _, _, _, _, _, _, _, _, _, _, _, _, _, _, _, _, _, _, _, rfl⟩
/-- Hours, minutes, seconds, and whether they are any. -/
def clkR (l : List UInt8) : Int × Int × Int × Bool :=
  if l.length = 8 ∧ l[2]? = some 58 ∧ l[5]? = some 58 then (num (l.take 2) 2, num ((l.drop 3).take 2) 2, num (l.drop 6) 2, decide (0 ≤ num (l.take 2) 2 ∧ 0 ≤ num ((l.drop 3).take 2) 2 ∧ 0 ≤ num (l.drop 6) 2)) else (0, 0, 0, false)
def clkQ : List (List UInt8) → Int × Int × Int
  | [a, b, c] => (num a 2, num b 2, num c 2)
  | _ => (-1, -1, -1)
def clkP (l : List UInt8) : Int × Int × Int := clkQ (spl 58 l)
theorem clkQ_good (L : List (List UInt8)) (h : 0 ≤ (clkQ L).1) : ∃ a b c, L = [a, b, c] := by
  match L, h with
  | [a, b, c], _ => exact ⟨a, b, c, rfl⟩
  | [], h => exact absurd h (by decide)
  | [_], h => exact absurd h (show ¬ (0 : Int) ≤ -1 by decide)
  | [_, _], h => exact absurd h (show ¬ (0 : Int) ≤ -1 by decide)
  | _ :: _ :: _ :: _ :: _, h => exact absurd h (show ¬ (0 : Int) ≤ -1 by decide)
theorem clk_shape {l : List UInt8} (h : (clkR l).2.2.2 = true) : ∃ a b c : List UInt8, l = a ++ 58 :: (b ++ 58 :: c) ∧ a.length = 2 ∧ b.length = 2 ∧ c.length = 2 ∧ 0 ≤ num a 2 ∧ 0 ≤ num b 2 ∧ 0 ≤ num c 2 := by
  unfold clkR at h
  by_cases g : l.length = 8 ∧ l[2]? = some 58 ∧ l[5]? = some 58
  · rw [if_pos g] at h
    obtain ⟨g0, g1, g2⟩ := g
    obtain ⟨a0, a1, a2, a3, a4, a5, a6, a7, rfl⟩ := len8 g0
    obtain rfl : a2 = 58 := Option.some.inj g1
    obtain rfl : a5 = 58 := Option.some.inj g2
    have q := of_decide_eq_true h
    exact ⟨[a0, a1], [a3, a4], [a6, a7], rfl, rfl, rfl, rfl, q⟩
  · rw [if_neg g] at h; cases h
theorem clkR_of {a b c : List UInt8} (ha : a.length = 2) (hb : b.length = 2) (hc : c.length = 2) : clkR (a ++ 58 :: (b ++ 58 :: c)) = (num a 2, num b 2, num c 2, decide (0 ≤ num a 2 ∧ 0 ≤ num b 2 ∧ 0 ≤ num c 2)) := by
  obtain ⟨a0, a1, rfl⟩ := len2 ha
  obtain ⟨b0, b1, rfl⟩ := len2 hb
  obtain ⟨c0, c1, rfl⟩ := len2 hc
  rfl
theorem clk_eq (l : List UInt8) : ((clkR l).2.2.2 = true ∧ clkP l = ((clkR l).1, (clkR l).2.1, (clkR l).2.2.1) ∧ 0 ≤ (clkR l).1 ∧ 0 ≤ (clkR l).2.1 ∧ 0 ≤ (clkR l).2.2.1) ∨ ((clkR l).2.2.2 = false ∧ ¬ (0 ≤ (clkP l).1 ∧ 0 ≤ (clkP l).2.1 ∧ 0 ≤ (clkP l).2.2)) := by
  by_cases h : (clkR l).2.2.2 = true
  · refine .inl ⟨h, ?_⟩
    obtain ⟨a, b, c, rfl, ha, hb, hc, na, nb, nc⟩ := clk_shape h
    rw [clkR_of ha hb hc]
    refine ⟨?_, na, nb, nc⟩
    have da := digit_ne (num_facts na).2.1 58 (by decide)
    have db := digit_ne (num_facts nb).2.1 58 (by decide)
    have dc := digit_ne (num_facts nc).2.1 58 (by decide)
    unfold clkP
    rw [spl3' da db dc]
    rfl
  · refine .inr ⟨by simpa using h, fun g => h ?_⟩
    obtain ⟨a, b, c, e⟩ := clkQ_good _ g.1
    obtain ⟨el, -, -, -⟩ := spl3 e
    unfold clkP at g
    rw [e] at g
    have ha := (num_facts g.1).1
    have hb := (num_facts g.2.1).1
    have hc := (num_facts g.2.2).1
    rw [el, clkR_of ha hb hc]
    exact decide_eq_true g
theorem clk_no (l : List UInt8) (h : (clkR l).2.2.2 = true) (d : UInt8) (hd : d.toNat < 48 ∨ 58 < d.toNat) : d ∉ l := by
  obtain ⟨a, b, c, rfl, -, -, -, na, nb, nc⟩ := clk_shape h
  have da := digit_ne (num_facts na).2.1 d (by omega)
  have db := digit_ne (num_facts nb).2.1 d (by omega)
  have dc := digit_ne (num_facts nc).2.1 d (by omega)
  have d8 : d ≠ 58 := fun e => by rw [e] at hd; revert hd; decide
  simp [da, db, dc, d8]
theorem clk_len {l : List UInt8} (h : (clkR l).2.2.2 = true) : l.length = 8 := by
  obtain ⟨a, b, c, rfl, ha, hb, hc, -⟩ := clk_shape h
  simp [ha, hb, hc]
theorem Ev.tell {α : Type} {a r : α} (h : a = r) : Ev (fun _ => some a) r := h ▸ Ev.now a
def leapY (y : Int) : Bool := decide (y % 4 = 0) && (decide (y % 100 ≠ 0) || decide (y % 400 = 0))
def lenM (y m : Int) : Int := if m = 2 then (if leapY y = true then 29 else 28) else if m = 4 ∨ m = 6 ∨ m = 9 ∨ m = 11 then 30 else 31
theorem lenM_range (y m : Int) : 28 ≤ lenM y m ∧ lenM y m ≤ 31 := by unfold lenM; split <;> split <;> omega
/-- How many days from 1970 on a year begins. -/
def firstY (y : Int) : Int := (y - 1) * 365 + (y - 1) / 4 - (y - 1) / 100 + (y - 1) / 400 - 719162
theorem firstY_next (y : Int) : firstY (y + 1) = firstY y + (if leapY y = true then 366 else 365) := by
  unfold firstY leapY
  by_cases a : y % 4 = 0
  · by_cases b : y % 100 = 0
    · by_cases c : y % 400 = 0
      · simp [a, b, c]; omega
      · simp [a, b, c]; omega
    · simp [a, b]; omega
  · simp [a]; omega
theorem firstY_lt {y : Int} : firstY y + 365 ≤ firstY (y + 1) ∧ firstY (y + 1) ≤ firstY y + 366 := by
  rw [firstY_next]; split <;> omega
theorem firstY_mono (y : Int) : ∀ n : Nat, firstY y + 365 * n ≤ firstY (y + n) ∧ firstY (y + n) ≤ firstY y + 366 * n
  | 0 => by simp
  | n + 1 => by
    have h := firstY_mono y n
    have q := firstY_lt (y := y + n)
    rw [show y + ((n + 1 : Nat) : Int) = y + n + 1 by omega]
    omega
theorem firstY_le {a b : Int} (h : a ≤ b) : firstY a ≤ firstY b := by
  obtain ⟨n, hn⟩ : ∃ n : Nat, b = a + n := ⟨(b - a).toNat, by omega⟩
  have := firstY_mono a n
  rw [hn]; omega
theorem firstY_strict {a b : Int} (h : a < b) : firstY a + 365 ≤ firstY b := by
  have := firstY_le (show a + 1 ≤ b by omega)
  have := firstY_lt (y := a)
  omega
theorem tmod_pos {a : Int} (h : 0 ≤ a) (n : Int) : Int.tmod a n = a % n := Int.tmod_eq_emod_of_nonneg h
theorem tdiv_pos {a : Int} (h : 0 ≤ a) (n : Int) : Int.tdiv a n = a / n := Int.tdiv_eq_ediv_of_nonneg h
theorem firstY_range {y : Int} (h0 : 1 ≤ y) (h1 : y ≤ 10001) : -719162 ≤ firstY y ∧ firstY y ≤ 3000000 := by
  unfold firstY; omega
theorem Ev.ite {α : Type} {c : Prop} [Decidable c] {A B : Nat → Option α} {r : α} (h : c → Ev A r) (k : ¬ c → Ev B r) : Ev (fun n => if c then A n else B n) r := by
  by_cases q : c
  · exact Ev.pos q (h q)
  · exact Ev.neg q (k q)
/-- The days of a year's first months. -/
def sumM (y : Int) : Nat → Int
  | 0 => 0
  | n + 1 => sumM y n + lenM y (n + 1)
theorem sumM_range (y : Int) : ∀ n : Nat, 28 * (n : Int) ≤ sumM y n ∧ sumM y n ≤ 31 * (n : Int)
  | 0 => by simp [sumM]
  | n + 1 => by
    have := sumM_range y n
    have := lenM_range y (n + 1)
    simp only [sumM]
    omega
theorem sumM_year (y : Int) : firstY (y + 1) = firstY y + sumM y 12 := by
  rw [firstY_next]
  unfold sumM sumM sumM sumM sumM sumM sumM sumM sumM sumM sumM sumM sumM
  simp [lenM]
  cases leapY y <;> simp
def badM (y mo d h mi s : Int) : Prop := y < 1601 ∨ y > 9999 ∨ mo < 1 ∨ mo > 12 ∨ d < 1 ∨ d > lenM y mo ∨ h < 0 ∨ h > 23 ∨ mi < 0 ∨ mi > 59 ∨ s < 0 ∨ s > 60
instance (y mo d h mi s : Int) : Decidable (badM y mo d h mi s) := by unfold badM; infer_instance
/-- The second of a time. -/
def makeOf (y mo d h mi s : Int) : Int × Bool := if badM y mo d h mi s then (0, false) else ((firstY y + d - 1 + sumM y (mo - 1).toNat) * 86400 + h * 3600 + mi * 60 + mn s 59, true)
def monL : List (List UInt8) := [[74, 97, 110], [70, 101, 98], [77, 97, 114], [65, 112, 114], [77, 97, 121], [74, 117, 110], [74, 117, 108], [65, 117, 103], [83, 101, 112], [79, 99, 116], [78, 111, 118], [68, 101, 99]]
def dayL : List (List UInt8) := [[83, 117, 110], [77, 111, 110], [84, 117, 101], [87, 101, 100], [84, 104, 117], [70, 114, 105], [83, 97, 116]]
def longL : List (List UInt8) := [[83, 117, 110, 100, 97, 121], [77, 111, 110, 100, 97, 121], [84, 117, 101, 115, 100, 97, 121], [87, 101, 100, 110, 101, 115, 100, 97, 121], [84, 104, 117, 114, 115, 100, 97, 121], [70, 114, 105, 100, 97, 121], [83, 97, 116, 117, 114, 100, 97, 121]]
def dayR : List (List UInt8) := [[84, 104, 117], [70, 114, 105], [83, 97, 116], [83, 117, 110], [77, 111, 110], [84, 117, 101], [87, 101, 100]]
def longR : List (List UInt8) := [[84, 104, 117, 114, 115, 100, 97, 121], [70, 114, 105, 100, 97, 121], [83, 97, 116, 117, 114, 100, 97, 121], [83, 117, 110, 100, 97, 121], [77, 111, 110, 100, 97, 121], [84, 117, 101, 115, 100, 97, 121], [87, 101, 100, 110, 101, 115, 100, 97, 121]]
/-- A text's first place in a list; -1: it is not there. -/
def idxF (s : List UInt8) : List (List UInt8) → Int → Int
  | [], _ => -1
  | x :: t, i => if x = s then i else idxF s t (i + 1)
theorem idxF_facts (s : List UInt8) : ∀ (l : List (List UInt8)) (i : Int), 0 ≤ i → (0 ≤ idxF s l i ↔ s ∈ l) ∧ -1 ≤ idxF s l i ∧ idxF s l i < i + l.length + 1
  | [], i, h => by simp [idxF]; omega
  | x :: t, i, h => by
    have q := idxF_facts s t (i + 1) (by omega)
    unfold idxF
    by_cases e : x = s
    · rw [if_pos e]; simp [e]; omega
    · rw [if_neg e, List.length_cons]
      refine ⟨q.1.trans ?_, q.2.1, by omega⟩
      simp [Ne.symm e]
def mon (s : List UInt8) : Int := idxF s monL 0
theorem mon_facts (s : List UInt8) : (0 ≤ mon s ↔ s ∈ monL) ∧ -1 ≤ mon s ∧ mon s < 13 := by
  have := idxF_facts s monL 0 (by omega)
  refine ⟨this.1, this.2.1, ?_⟩
  have h := this.2.2
  have e : (monL.length : Int) = 12 := rfl
  unfold mon; omega
theorem monL_facts : ∀ x ∈ monL, x.length = 3 ∧ (32 : UInt8) ∉ x ∧ (45 : UInt8) ∉ x := by decide
theorem dayL_facts : ∀ x ∈ dayL, x.length = 3 ∧ (32 : UInt8) ∉ x ∧ (44 : UInt8) ∉ x := by decide
theorem longL_facts : ∀ x ∈ longL, 6 ≤ x.length ∧ x.length ≤ 9 ∧ (32 : UInt8) ∉ x ∧ (44 : UInt8) ∉ x := by decide
theorem dayR_mem (s : List UInt8) : s ∈ dayR ↔ s ∈ dayL :=
  ⟨(show ∀ x ∈ dayR, x ∈ dayL by decide) s, (show ∀ x ∈ dayL, x ∈ dayR by decide) s⟩
theorem longR_mem (s : List UInt8) : s ∈ longR ↔ s ∈ longL :=
  ⟨(show ∀ x ∈ longR, x ∈ longL by decide) s, (show ∀ x ∈ longL, x ∈ longR by decide) s⟩
def inR (t : Int) : Bool := decide (t ≥ -11644473600) && decide (t < 253402300800)
theorem day_split (t : Int) : (Int.tmod t 86400 < 0 → Int.tdiv t 86400 - 1 = t / 86400 ∧ Int.tmod t 86400 + 86400 = t % 86400) ∧ (¬ Int.tmod t 86400 < 0 → Int.tdiv t 86400 = t / 86400 ∧ Int.tmod t 86400 = t % 86400) := by
  by_cases h : 0 ≤ t
  · rw [tmod_pos h, tdiv_pos h]
    refine ⟨fun c => by omega, fun c => ⟨rfl, rfl⟩⟩
  · obtain ⟨m, rfl⟩ : ∃ m, t = -m := ⟨-t, by omega⟩
    rw [Int.neg_tmod, Int.neg_tdiv, tmod_pos (by omega), tdiv_pos (by omega)]
    refine ⟨fun c => by omega, fun c => by omega⟩
theorem year_ex (n : Int) (h0 : firstY 1601 ≤ n) : ∀ m : Nat, n < firstY (1601 + m) → ∃ y : Int, 1601 ≤ y ∧ y < 1601 + m ∧ firstY y ≤ n ∧ n < firstY (y + 1)
  | 0, h => by simp at h; omega
  | m + 1, h => by
    by_cases c : n < firstY (1601 + m)
    · obtain ⟨y, a, b, d, e⟩ := year_ex n h0 m c
      exact ⟨y, a, by omega, d, e⟩
    · exact ⟨1601 + m, by omega, by omega, by omega, by rw [show (1601 : Int) + m + 1 = 1601 + ((m + 1 : Nat) : Int) by omega]; exact h⟩
theorem year_of {t : Int} (h : inR t = true) : ∃ y : Int, 1601 ≤ y ∧ y ≤ 9999 ∧ firstY y ≤ t / 86400 ∧ t / 86400 < firstY (y + 1) := by
  unfold inR at h
  simp only [Bool.and_eq_true, decide_eq_true_eq] at h
  have e1 : firstY 1601 = -134774 := by decide
  have e2 : firstY (1601 + (8399 : Nat)) = 2932897 := by decide
  obtain ⟨y, a, b, c, d⟩ := year_ex (t / 86400) (by rw [e1]; omega) 8399 (by rw [e2]; omega)
  exact ⟨y, a, by omega, c, d⟩
/-- The year that ends in two digits, fifty years ahead at most. -/
def nearY (yy y : Int) : Int := y + 50 - (y + 50 - yy) % 100
def tellM (m : Int × Bool) : Int × Int := if m.2 = true then (m.1, 0) else (0, 1)
def okM (y mo d : Int) (c : Int × Int × Int × Bool) : Prop := c.2.2.2 = true ∧ 0 ≤ y ∧ 0 ≤ mo ∧ 0 ≤ d
instance (y mo d : Int) (c : Int × Int × Int × Bool) : Decidable (okM y mo d c) := by unfold okM; infer_instance
/-- A time of parts that were read. -/
def madeOf (y mo d : Int) (c : Int × Int × Int × Bool) : Int × Int := if okM y mo d c then tellM (makeOf y (mo + 1) d c.1 c.2.1 c.2.2.1) else (0, 4)
theorem made_no {y mo d : Int} {c : Int × Int × Int × Bool} (h : ¬ okM y mo d c) : madeOf y mo d c = (0, 4) := if_neg h
def finOf (x : Int × Int × Int × Int × Int × Int) : Int × Int :=
  if 0 ≤ x.1 ∧ 0 ≤ x.2.1 ∧ 0 ≤ x.2.2.1 ∧ 0 ≤ x.2.2.2.1 ∧ 0 ≤ x.2.2.2.2.1 ∧ 0 ≤ x.2.2.2.2.2 then tellM (makeOf x.1 (x.2.1 + 1) x.2.2.1 x.2.2.2.1 x.2.2.2.2.1 x.2.2.2.2.2) else (0, 4)
theorem fin_made (y mo d : Int) (l : List UInt8) : finOf (y, mo, d, clkP l) = madeOf y mo d (clkR l) := by
  unfold finOf madeOf
  rcases clk_eq l with ⟨h1, h2, h3, h4, h5⟩ | ⟨h1, h2⟩
  · rw [h2]
    by_cases q : 0 ≤ y ∧ 0 ≤ mo ∧ 0 ≤ d
    · rw [if_pos ⟨q.1, q.2.1, q.2.2, h3, h4, h5⟩, if_pos (show okM y mo d (clkR l) from ⟨h1, q⟩)]
    · rw [if_neg (fun g => q ⟨g.1, g.2.1, g.2.2.1⟩), if_neg (fun g : okM y mo d (clkR l) => q g.2)]
  · rw [if_neg (fun g => h2 g.2.2.2), if_neg (fun g : okM y mo d (clkR l) => by have := g.1; rw [h1] at this; cases this)]
def YR (t y : Int) : Prop := 1601 ≤ y ∧ y ≤ 9999 ∧ (inR t = true → firstY y ≤ t / 86400 ∧ t / 86400 < firstY (y + 1)) ∧ (inR t = false → y = 1970)
theorem yr_ex (t : Int) : ∃ y, YR t y := by
  cases h : inR t
  · exact ⟨1970, by unfold YR; simp [h]⟩
  · obtain ⟨y, a, b, c, d⟩ := year_of h
    exact ⟨y, a, b, fun _ => ⟨c, d⟩, fun e => by rw [h] at e; cases e⟩
def gmt : List UInt8 := [71, 77, 84]
def endsC (p : List UInt8) : Bool := Lib.hasSuffix p [44]
def fixY (p0 p3 p5 : List UInt8) : Int := if p0.length = 4 ∧ p0[3]? = some 44 ∧ p0.take 3 ∈ dayL ∧ p5 = gmt then num p3 4 else -1
def fixP (p0 p1 p2 p3 p4 p5 : List UInt8) : Int × Int := madeOf (fixY p0 p3 p5) (mon p2) (num p1 2) (clkR p4)
def obsY (q2 : List UInt8) (yr : Int) : Int := if 0 ≤ num q2 2 then nearY (num q2 2) yr else -1
def obsQ (p0 p2 p3 : List UInt8) (yr : Int) : List (List UInt8) → Int × Int
  | [q0, q1, q2] => if endsC p0 = true ∧ p0.take (p0.length - 1) ∈ longL ∧ p3 = gmt then madeOf (obsY q2 yr) (mon q1) (num q0 2) (clkR p2) else (0, 4)
  | _ => (0, 4)
def obsP (p0 p1 p2 p3 : List UInt8) (yr : Int) : Int × Int := obsQ p0 p2 p3 yr (spl 45 p1)
def ascG (l : List UInt8) : Prop := l.length = 24 ∧ l[3]? = some 32 ∧ l[7]? = some 32 ∧ l[10]? = some 32 ∧ l[19]? = some 32 ∧ l.take 3 ∈ dayL
instance (l : List UInt8) : Decidable (ascG l) := by unfold ascG; infer_instance
def ascD (l : List UInt8) : Int := if l[8]? = some 32 then num ((l.drop 9).take 1) 1 else num ((l.drop 8).take 2) 2
def ascM (l : List UInt8) : Int × Int := madeOf (num (l.drop 20) 4) (mon ((l.drop 4).take 3)) (ascD l) (clkR ((l.drop 11).take 8))
def ascP (l : List UInt8) : Int × Int := if ascG l then ascM l else (0, 4)
def parseQ (l : List UInt8) (yr : Int) : List (List UInt8) → Int × Int
  | [p0, p1, p2, p3, p4, p5] => if endsC p0 = true then fixP p0 p1 p2 p3 p4 p5 else ascP l
  | [p0, p1, p2, p3] => if endsC p0 = true then obsP p0 p1 p2 p3 yr else ascP l
  | _ => ascP l
/-- A date, read by its pieces. -/
def parseP (l : List UInt8) (yr : Int) : Int × Int := parseQ l yr (spl 32 l)
def imfG (l : List UInt8) : Prop := l.length = 29 ∧ (l.drop 3).take 2 = [44, 32] ∧ l[7]? = some 32 ∧ l[11]? = some 32 ∧ l[16]? = some 32 ∧ l.drop 25 = [32, 71, 77, 84] ∧ l.take 3 ∈ dayL
instance (l : List UInt8) : Decidable (imfG l) := by unfold imfG; infer_instance
def imfM (l : List UInt8) : Int × Int := madeOf (num ((l.drop 12).take 4) 4) (mon ((l.drop 8).take 3)) (num ((l.drop 5).take 2) 2) (clkR ((l.drop 17).take 8))
def rfcG (r : List UInt8) : Prop := r.length = 24 ∧ r[1]? = some 32 ∧ r[4]? = some 45 ∧ r[8]? = some 45 ∧ r[11]? = some 32 ∧ r.drop 20 = [32, 71, 77, 84]
instance (r : List UInt8) : Decidable (rfcG r) := by unfold rfcG; infer_instance
def rfcY (q : List UInt8) (yr : Int) : Int := if 0 ≤ num q 2 then nearY (num q 2) yr else num q 2
def rfcM (r : List UInt8) (yr : Int) : Int × Int := madeOf (rfcY ((r.drop 9).take 2) yr) (mon ((r.drop 5).take 3)) (num ((r.drop 2).take 2) 2) (clkR ((r.drop 12).take 8))
/-- How many bytes stand before the first ','. -/
def com : List UInt8 → Nat
  | [] => 0
  | b :: t => if b = 44 then 0 else com t + 1
theorem com_le : ∀ l : List UInt8, com l ≤ l.length
  | [] => Nat.le_refl _
  | b :: t => by unfold com; split; omega; have := com_le t; simp; omega
theorem com_of : ∀ (n r : List UInt8), (44 : UInt8) ∉ n → com (n ++ 44 :: r) = n.length
  | [], r, _ => by simp [com]
  | b :: t, r, h => by
    have hb : b ≠ 44 := fun e => h (by simp [e])
    rw [List.cons_append, com, if_neg hb, com_of t r (fun e => h (by simp [e]))]; rfl
def obsG (l : List UInt8) : Prop := com l < l.length ∧ l.take (com l) ∈ longL ∧ rfcG (l.drop (com l))
instance (l : List UInt8) : Decidable (obsG l) := by unfold obsG; infer_instance
/-- A date, read by its places. -/
def parseR (l : List UInt8) (yr : Int) : Int × Int := if imfG l then imfM l else if ascG l then ascM l else if obsG l then rfcM (l.drop (com l)) yr else (0, 4)
/-- A time, as Print writes it. -/
def txtOf (w : List UInt8) (dd : Nat) (m : List UInt8) (y h mi s : Nat) : List UInt8 := (w ++ [44]) ++ 32 :: (dg2 dd ++ 32 :: (m ++ 32 :: (dg4 y ++ 32 :: ((dg2 h ++ 58 :: (dg2 mi ++ 58 :: dg2 s)) ++ 32 :: gmt))))
def wkd (n : Int) : List UInt8 := dayR.getD (n % 7).toNat []
def mth (p : Nat) : List UInt8 := monL.getD p []
theorem wkd_in (n : Int) : wkd n ∈ dayL := by
  have : ∀ i, i < 7 → dayR.getD i [] ∈ dayL := by decide
  exact this _ (by omega)
theorem wkd_len (n : Int) : (wkd n).length = 3 := (dayL_facts _ (wkd_in n)).1
theorem mth_mon : ∀ p : Nat, p ≤ 11 → mon (mth p) = p := by
  intro p h
  have : ∀ i, i < 12 → mon (mth i) = i := by decide
  exact this p (by omega)
theorem mth_len (p : Nat) (h : p ≤ 11) : (mth p).length = 3 := (monL_facts _ ((mon_facts _).1.1 (by rw [mth_mon p h]; omega))).1
/-- The parts of a second. -/
structure PT (t : Int) (y p dd : Nat) : Prop where
  hi : inR t = true
  y0 : 1601 ≤ y
  y1 : y ≤ 9999
  p1 : p ≤ 11
  d0 : 1 ≤ dd
  d1 : (dd : Int) ≤ lenM y ((p : Int) + 1)
  eq : t / 86400 = firstY y + sumM y p + dd - 1
theorem PT_ex {t : Int} (h : inR t = true) : ∃ y p dd : Nat, PT t y p dd ∧ firstY y ≤ t / 86400 ∧ t / 86400 < firstY ((y : Int) + 1) := by
  obtain ⟨y, a, b, c, d⟩ := year_of h
  obtain ⟨Y, rfl⟩ : ∃ Y : Nat, y = Y := ⟨y.toNat, by omega⟩
  have e := sumM_year Y
  have mex : ∀ m : Nat, t / 86400 - firstY Y < sumM Y m → ∃ p, p < m ∧ sumM Y p ≤ t / 86400 - firstY Y ∧ t / 86400 - firstY Y < sumM Y (p + 1) := by
    intro m
    induction m with
    | zero => intro h; simp [sumM] at h; omega
    | succ m ih =>
      intro h
      by_cases c : t / 86400 - firstY Y < sumM Y m
      · obtain ⟨p, a, b⟩ := ih c
        exact ⟨p, by omega, b⟩
      · exact ⟨m, by omega, by omega, h⟩
  obtain ⟨p, p1, p2, p3⟩ := mex 12 (by omega)
  have e3 : sumM Y (p + 1) = sumM Y p + lenM Y ((p : Int) + 1) := by simp only [sumM]
  refine ⟨Y, p, (t / 86400 - firstY Y - sumM Y p + 1).toNat, ⟨h, by omega, by omega, by omega, by omega, by omega, by omega⟩, c, d⟩
theorem PT.year {t : Int} {y p dd : Nat} (h : PT t y p dd) : firstY y ≤ t / 86400 ∧ t / 86400 < firstY ((y : Int) + 1) := by
  have e3 : sumM y (p + 1) = sumM y p + lenM y ((p : Int) + 1) := by simp only [sumM]
  have r := sumM_range y p
  have hle : ∀ i : Nat, sumM y (p + 1) ≤ sumM y (p + 1 + i) := by
    intro i
    induction i with
    | zero => exact Int.le_refl _
    | succ i ih =>
      have e : sumM y (p + 1 + (i + 1)) = sumM y (p + 1 + i) + lenM y (((p + 1 + i : Nat) : Int) + 1) := by rw [← Nat.add_assoc]; simp only [sumM]
      have := lenM_range y (((p + 1 + i : Nat) : Int) + 1)
      omega
  have q := hle (11 - p)
  rw [show p + 1 + (11 - p) = 12 by have := h.p1; omega] at q
  have s := sumM_year y
  have := h.eq
  have := h.d0
  have := h.d1
  omega
def txt (t : Int) (y p dd : Nat) : List UInt8 := txtOf (wkd (t / 86400)) dd (mth p) y ((t % 86400).toNat / 3600) ((t % 86400).toNat / 60 % 60) ((t % 86400).toNat % 60)
/-- The second of its own parts. -/
theorem PT.make {t : Int} {y p dd : Nat} (h : PT t y p dd) : makeOf y ((p : Int) + 1) dd ((t % 86400).toNat / 3600 : Nat) ((t % 86400).toNat / 60 % 60 : Nat) ((t % 86400).toNat % 60 : Nat) = (t, true) := by
  obtain ⟨hi, y0, y1, p1, d0, d1, eq⟩ := h
  unfold makeOf
  rw [if_neg (by unfold badM; omega), show (((p : Int) + 1) - 1).toNat = p by omega]
  have hm : mn ((((t % 86400).toNat % 60 : Nat) : Int)) 59 = (((t % 86400).toNat % 60 : Nat) : Int) := by unfold mn; split <;> omega
  rw [hm]
  congr 1
  omega
theorem dec1 (n : Nat) (h : n < 10) : Lib.decDigits n = [UInt8.ofNat (48 + n % 10)] := by
  rw [Lib.decDigits, dif_pos h, Nat.mod_eq_of_lt h]
theorem decN (n : Nat) (h : ¬ n < 10) : Lib.decDigits n = Lib.decDigits (n / 10) ++ [UInt8.ofNat (48 + n % 10)] := by
  rw [Lib.decDigits, dif_neg h]
theorem Itoa_ok (n : Nat) (h : n ≤ 9223372036854775807) : strconv_Itoa.f (n : Int) = some (mk (Lib.decDigits n)) := by
  unfold strconv_Itoa.f Lib.itoa
  rw [if_pos (by omega), if_neg (by omega), Int.toNat_natCast]
  rfl
theorem digits_l0 (l : List UInt8) (w : Nat) (hw : w ≤ 100) : ∀ j, l.length + j = w → Ev (fun k => date_digits.l0 k (w : Int) (mk l)) (mk (List.replicate j 48 ++ l))
  | 0, h => Ev.step (fun _ => date_digits.l0.eq_2 ..) (Ev.neg (by rw [mk_size]; omega) (Ev.now _))
  | j + 1, h => by
    refine Ev.step (fun _ => date_digits.l0.eq_2 ..) (Ev.pos (by rw [mk_size]; omega) (Ev.pos (by rw [mk_size]; omega) ?_))
    have e : (⟨#[48]⟩ : ByteArray) ++ mk l = mk (48 :: l) := by apply B_inj; rw [B_append]; rfl
    rw [e]
    have r := digits_l0 (48 :: l) w hw j (by simp; omega)
    have e2 : List.replicate j (48 : UInt8) ++ 48 :: l = List.replicate (j + 1) 48 ++ l := by rw [List.replicate_succ', List.append_assoc]; rfl
    rw [e2] at r
    exact r
theorem digits2_ok (n : Nat) (h : n < 100) : Ev (fun k => date_digits.f k (n : Int) 2) (mk (dg2 n)) := by
  unfold date_digits.f
  refine Ev.bnd (Itoa_ok n (by omega)) ?_
  by_cases c : n < 10
  · rw [dec1 n c]
    have r := digits_l0 [UInt8.ofNat (48 + n % 10)] 2 (by omega) 1 rfl
    have e : List.replicate 1 (48 : UInt8) ++ [UInt8.ofNat (48 + n % 10)] = dg2 n := by
      unfold dg2
      rw [show n / 10 = 0 by omega]; rfl
    rw [e] at r
    exact r
  · rw [decN n c, dec1 (n / 10) (by omega)]
    exact digits_l0 (dg2 n) 2 (by omega) 0 rfl
theorem digits4_ok (n : Nat) (h0 : 1000 ≤ n) (h : n < 10000) : Ev (fun k => date_digits.f k (n : Int) 4) (mk (dg4 n)) := by
  unfold date_digits.f
  refine Ev.bnd (Itoa_ok n (by omega)) ?_
  rw [decN n (by omega), decN (n / 10) (by omega), decN (n / 10 / 10) (by omega), dec1 (n / 10 / 10 / 10) (by omega)]
  have e : [UInt8.ofNat (48 + n / 10 / 10 / 10 % 10)] ++ [UInt8.ofNat (48 + n / 10 / 10 % 10)] ++ [UInt8.ofNat (48 + n / 10 % 10)] ++ [UInt8.ofNat (48 + n % 10)] = dg4 n := by
    unfold dg4 dg2
    rw [show n / 10 / 10 = n / 100 by omega]
    rfl
  rw [e]
  exact digits_l0 (dg4 n) 4 (by omega) 0 rfl
theorem Index_loop (l : List ByteArray) (s : ByteArray) (hl : l.length ≤ 1000) : ∀ (t : List ByteArray) (i : Nat), l.drop i = t → Ev (fun k => slices_Index_string_string.l0 k l s (l.length : Int) (i : Int)) (idxF (B s) (t.map B) i)
  | [], i, h => by
    have := drop_nil h
    exact Ev.step (fun _ => slices_Index_string_string.l0.eq_2 ..) (Ev.neg (by omega) (Ev.now _))
  | x :: t, i, h => by
    obtain ⟨h1, h2, h3⟩ := drop_cons h
    refine Ev.step (fun _ => slices_Index_string_string.l0.eq_2 ..) (Ev.pos (by omega) (Ev.pos (by omega) (Ev.pos (by omega) ?_)))
    rw [rdOf_of h2, toList_B, toList_B, List.map_cons, idxF]
    by_cases e : B s = B x
    · rw [if_pos e.symm]; exact Ev.pos e (Ev.now _)
    · rw [if_neg (fun q => e q.symm)]
      refine Ev.neg e ?_
      rw [wrap_id (by omega) (by omega), cast_succ]
      exact Index_loop l s hl t (i + 1) h3
theorem month_ok (s : ByteArray) (y mo d h mi c : Int) : Ev (fun k => date_date_month.f k y mo d h mi c s) (y, mon (B s), d, h, mi, c) := by
  unfold date_date_month.f
  obtain ⟨M, hM⟩ : ∃ M, date_months.f = some M := ⟨_, rfl⟩
  refine Ev.bnd hM (Ev.bind (a := mon (B s)) ?_ (Ev.now _))
  have e : M.map B = monL := by rw [← Option.some.inj hM]; rfl
  have hl : M.length ≤ 1000 := by rw [← List.length_map (f := B), e]; decide
  have := Index_loop M s hl M 0 rfl
  rw [e] at this
  exact this
theorem dayNames_eq : Own.dayNames.map B = longL := rfl
theorem dayNames_eq3 : Own.dayNames.map (fun x => (x.extract 0 3).toList) = dayL := by kernel_rfl
theorem any_dec (l : List (List UInt8)) (s : List UInt8) : (l.any fun x => x == s) = decide (s ∈ l) := by
  rw [Bool.eq_iff_iff, List.any_eq_true, decide_eq_true_iff]
  exact ⟨fun ⟨x, hx, e⟩ => by rw [← beq_iff_eq.1 e]; exact hx, fun h => ⟨s, h, beq_self_eq_true s⟩⟩
theorem named_short (s : ByteArray) : date_named.f s true = some (decide (B s ∈ dayL)) := by
  unfold date_named.f
  rw [← any_dec, ← dayNames_eq3, List.any_map]
  congr 2
  funext x
  simp [Own.nameIs, Function.comp, toList_B]
theorem named_long (s : ByteArray) : date_named.f s false = some (decide (B s ∈ longL)) := by
  unfold date_named.f
  rw [← any_dec, ← dayNames_eq, List.any_map]
  congr 2
  funext x
  simp [Own.nameIs, Function.comp, toList_B]
theorem leap_ok {y : Int} (h : 0 ≤ y) : date_leap.f y = some (leapY y) := by
  unfold date_leap.f leapY
  rw [tmod_pos h, tmod_pos h, tmod_pos h]
  by_cases a : y % 4 = 0
  · rw [if_pos a]
    by_cases b : y % 100 = 0
    · rw [if_pos b]; simp [a, b]; rfl
    · rw [if_neg b]; simp [a, b]
  · rw [if_neg a]
    have : ¬ y % 400 = 0 := by omega
    simp [a, this]
theorem length_ok {y m : Int} (h : 0 ≤ y) : Ev (fun k => date_length.f k y m) (lenM y m) := by
  unfold date_length.f lenM
  by_cases a : m = 2
  · rw [if_pos a]
    refine Ev.pos a (Ev.bnd (leap_ok h) (Ev.step (fun _ => date_length.j0.eq_2 ..) ?_))
    cases b : leapY y
    · exact Ev.neg (by simp) (Ev.pos a (Ev.now _))
    · exact Ev.pos rfl (Ev.now _)
  · rw [if_neg a]
    refine Ev.neg a (Ev.step (fun _ => date_length.j0.eq_2 ..) (Ev.neg (by simp) (Ev.neg a ?_)))
    by_cases b : m = 4
    · exact Ev.pos b (Ev.tell (if_pos (by omega)).symm)
    refine Ev.neg b ?_
    by_cases c : m = 6
    · exact Ev.pos c (Ev.tell (if_pos (by omega)).symm)
    refine Ev.neg c ?_
    by_cases d : m = 9
    · exact Ev.pos d (Ev.tell (if_pos (by omega)).symm)
    refine Ev.neg d ?_
    by_cases e : m = 11
    · exact Ev.pos e (Ev.tell (if_pos (by omega)).symm)
    · exact Ev.neg e (Ev.tell (if_neg (by omega)).symm)
theorem ahead_ok {y : Int} (h0 : 1 ≤ y) (h1 : y ≤ 20000) : date_ahead.f y = some ((y - 1) * 365 + (y - 1) / 4 - (y - 1) / 100 + (y - 1) / 400) := by
  unfold date_ahead.f
  rw [wrap_id (x := y - 1) (by omega) (by omega), tdiv_pos (by omega), tdiv_pos (by omega), tdiv_pos (by omega)]
  simp (disch := omega) only [wrap_id]
theorem first_ok' {y : Int} (h0 : 1 ≤ y) (h1 : y ≤ 20000) : date_first.f y = some (firstY y) := by
  unfold date_first.f
  rw [ahead_ok h0 h1, ahead_ok (y := 1970) (by omega) (by omega)]
  simp only [Option.bind_some]
  rw [wrap_id (by omega) (by omega)]
  unfold firstY
  congr 1
theorem within_ok (t : Int) : date_within.f t = some (inR t) := by
  unfold date_within.f inR
  rw [first_ok' (y := 1601) (by omega) (by omega), first_ok' (y := 10000) (by omega) (by omega)]
  have e1 : firstY 1601 = -134774 := by decide
  have e2 : firstY 10000 = 2932897 := by decide
  simp only [Option.bind_some, e1, e2]
  have w1 : wrap64 (-134774 * 86400) = -11644473600 := wrap_id (by omega) (by omega)
  have w2 : wrap64 (2932897 * 86400) = 253402300800 := wrap_id (by omega) (by omega)
  rw [w1, w2]
  by_cases h : t ≥ -11644473600
  · rw [if_pos h, decide_eq_true h]; rfl
  · rw [if_neg h, decide_eq_false h]; rfl
theorem down_ok {t : Int} (h0 : -9000000000000000000 ≤ t) (h1 : t ≤ 9000000000000000000) : date_down.f t 86400 = some (t / 86400, t % 86400) := by
  unfold date_down.f
  have d := day_split t
  rw [if_neg (by omega)]
  by_cases c : Int.tmod t 86400 < 0
  · obtain ⟨a, b⟩ := d.1 c
    rw [if_pos c, wrap_id (x := Int.tdiv t 86400) (by omega) (by omega), wrap_id (by omega) (by omega), wrap_id (by omega) (by omega), a, b]
  · obtain ⟨a, b⟩ := d.2 c
    rw [if_neg c, wrap_id (x := Int.tdiv t 86400) (by omega) (by omega), a, b]
theorem yearOf_loop (n y : Int) (hy : y ≤ 9999) (h0 : firstY y ≤ n) (h1 : n < firstY (y + 1)) (hn : -1000000 ≤ n ∧ n ≤ 10000000) : ∀ (j : Nat) (x : Int), 1 ≤ x → x + j = y → Ev (fun k => date_yearOf.l0 k n x) (y, n - firstY y)
  | 0, x, hx, he => by
    obtain rfl : x = y := by omega
    have f := firstY_range (y := x) (by omega) (by omega)
    refine Ev.step (fun _ => date_yearOf.l0.eq_2 ..) (Ev.ite (fun c => ?_) (fun c => ?_))
    · rw [wrap_id (x := x + 1) (by omega) (by omega)]
      refine Ev.bnd (first_ok' (by omega) (by omega)) (Ev.neg (by omega) (Ev.bnd (first_ok' (by omega) (by omega)) ?_))
      rw [wrap_id (by omega) (by omega)]
      exact Ev.now _
    · refine Ev.bnd (first_ok' (by omega) (by omega)) ?_
      rw [wrap_id (by omega) (by omega)]
      exact Ev.now _
  | j + 1, x, hx, he => by
    have q := firstY_le (show x + 1 ≤ y by omega)
    refine Ev.step (fun _ => date_yearOf.l0.eq_2 ..) (Ev.pos (by omega) ?_)
    rw [wrap_id (x := x + 1) (by omega) (by omega)]
    exact Ev.bnd (first_ok' (by omega) (by omega)) (Ev.pos (by omega) (yearOf_loop n y hy h0 h1 hn j (x + 1) (by omega) (by omega)))
theorem yearOf_ok {n y : Int} (ha : 1601 ≤ y) (hy : y ≤ 9999) (h0 : firstY y ≤ n) (h1 : n < firstY (y + 1)) : Ev (fun k => date_yearOf.f k n) (y, n - firstY y) := by
  have e1 : firstY 1601 = -134774 := by decide
  have f0 := firstY_le ha
  have f2 := firstY_range (y := y + 1) (by omega) (by omega)
  unfold date_yearOf.f
  refine Ev.bnd (first_ok' (y := 1601) (by omega) (by omega)) ?_
  rw [e1, wrap_id (x := n - _) (by omega) (by omega), tdiv_pos (by omega), wrap_id (x := (n - -134774) / 366) (by omega) (by omega), wrap_id (by omega) (by omega)]
  obtain ⟨m, hm⟩ : ∃ m : Nat, (n - -134774) / 366 = m := ⟨((n - -134774) / 366).toNat, by omega⟩
  rw [hm]
  have g := firstY_mono 1601 m
  have hle : 1601 + (m : Int) ≤ y := by
    refine Int.not_lt.1 (fun c => ?_)
    have := firstY_le (show y + 1 ≤ 1601 + (m : Int) by omega)
    omega
  exact yearOf_loop n y hy h0 h1 ⟨by omega, by omega⟩ (y - (1601 + (m : Int))).toNat _ (by omega) (by omega)
theorem down7_ok {t : Int} (h0 : -9000000000000000000 ≤ t) (h1 : t ≤ 9000000000000000000) : date_down.f t 7 = some (t / 7, t % 7) := by
  have d : (Int.tmod t 7 < 0 → Int.tdiv t 7 - 1 = t / 7 ∧ Int.tmod t 7 + 7 = t % 7) ∧ (¬ Int.tmod t 7 < 0 → Int.tdiv t 7 = t / 7 ∧ Int.tmod t 7 = t % 7) := by
    by_cases h : 0 ≤ t
    · rw [tmod_pos h, tdiv_pos h]
      exact ⟨fun c => by omega, fun c => ⟨rfl, rfl⟩⟩
    · obtain ⟨m, rfl⟩ : ∃ m, t = -m := ⟨-t, by omega⟩
      rw [Int.neg_tmod, Int.neg_tdiv, tmod_pos (by omega), tdiv_pos (by omega)]
      exact ⟨fun c => by omega, fun c => by omega⟩
  unfold date_down.f
  rw [if_neg (by omega)]
  by_cases c : Int.tmod t 7 < 0
  · obtain ⟨a, b⟩ := d.1 c
    rw [if_pos c, wrap_id (x := Int.tdiv t 7) (by omega) (by omega), wrap_id (by omega) (by omega), wrap_id (by omega) (by omega), a, b]
  · obtain ⟨a, b⟩ := d.2 c
    rw [if_neg c, wrap_id (x := Int.tdiv t 7) (by omega) (by omega), a, b]
theorem wkd_sun (n : Int) : wkd n = dayL.getD ((n + 4) % 7).toNat [] := by
  have h : ∀ i : Nat, i < 7 → dayR.getD i [] = dayL.getD ((i + 4) % 7) [] := by decide
  have := h (n % 7).toNat (by omega)
  unfold wkd
  rw [this]
  congr 1
  omega
theorem Print_fin (n y s : Int) (Y p dd S : Nat) (hY : y = Y) (y0 : 1601 ≤ Y) (y1 : Y ≤ 9999) (hp : p ≤ 11) (d0 : 1 ≤ dd) (d1 : (dd : Int) ≤ lenM y ((p : Int) + 1)) (hn : -1000000 ≤ n ∧ n ≤ 10000000) (hS : s = S) (s1 : S < 86400) :
    Ev (fun k => date_Print.l0 k n s y ((dd : Int) - 1) ((p : Int) + 1)) (mk (txtOf (wkd n) dd (mth p) Y (S / 3600) (S / 60 % 60) (S % 60)), 0) := by
  have ll := lenM_range y ((p : Int) + 1)
  have hw : (wkd n).length = 3 := wkd_len n
  have hm : (mth p).length = 3 := mth_len p hp
  obtain ⟨D, hD⟩ : ∃ D, date_days.f = some D := ⟨_, rfl⟩
  have eD : D.map B = longL := by rw [← Option.some.inj hD]; rfl
  obtain ⟨M, hM⟩ : ∃ M, date_months.f = some M := ⟨_, rfl⟩
  have eM : M.map B = monL := by rw [← Option.some.inj hM]; rfl
  obtain ⟨rM, lM⟩ := rd_at eM p (show p < 12 by omega)
  obtain ⟨i, hi⟩ : ∃ i : Nat, (n + 4) % 7 = i := ⟨((n + 4) % 7).toNat, by omega⟩
  obtain ⟨rD, lD⟩ := rd_at eD i (show i < 7 by omega)
  have xD : (rdOf ByteArray.empty D (i : Int)).extract 0 3 = mk (wkd n) := by
    apply B_inj
    rw [rD, B_to, B_mk, B_mk, wkd_sun, hi, Int.toNat_natCast]
    exact (show ∀ j, j < 7 → (longL.getD j []).take 3 = dayL.getD j [] by decide) i (by omega)
  have lD3 : 3 ≤ ((rdOf ByteArray.empty D (i : Int)).size : Int) := by
    rw [rD, mk_size]
    have := (show ∀ j, j < 7 → 3 ≤ (longL.getD j []).length by decide) i (by omega)
    omega
  refine Ev.step (fun _ => date_Print.l0.eq_2 ..) (Ev.bind (length_ok (by omega)) (Ev.neg (by omega) ?_))
  rw [wrap_id (x := n + 4) (by omega) (by omega)]
  refine Ev.bnd (down7_ok (by omega) (by omega)) (Ev.bnd hD ?_)
  simp only [hi]
  rw [xD]
  refine Ev.pos (by omega) (Ev.pos lD (Ev.pos (by decide) (Ev.pos lD3 (Ev.pos (by simp only [ByteArray.size_append, mk_size, hw, hm, dg2_len, dg4_len, z1, z2, z3, z4]; omega) ?_))))
  rw [wrap_id (x := (dd : Int) - 1 + 1) (by omega) (by omega), show (dd : Int) - 1 + 1 = dd by omega]
  refine Ev.bind (digits2_ok dd (by omega)) (Ev.pos (by simp only [ByteArray.size_append, mk_size, hw, hm, dg2_len, dg4_len, z1, z2, z3, z4]; omega) (Ev.pos (by simp only [ByteArray.size_append, mk_size, hw, hm, dg2_len, dg4_len, z1, z2, z3, z4]; omega) (Ev.bnd hM ?_)))
  rw [wrap_id (x := (p : Int) + 1 - 1) (by omega) (by omega), show (p : Int) + 1 - 1 = p by omega, rM]
  rw [show monL.getD p [] = mth p from rfl]
  refine Ev.pos (by omega) (Ev.pos lM (Ev.pos (by simp only [ByteArray.size_append, mk_size, hw, hm, dg2_len, dg4_len, z1, z2, z3, z4]; omega) (Ev.pos (by simp only [ByteArray.size_append, mk_size, hw, hm, dg2_len, dg4_len, z1, z2, z3, z4]; omega) ?_)))
  rw [hY, hS, tdiv_pos (by omega), tdiv_pos (by omega), wrap_id (x := (S : Int) / 3600) (by omega) (by omega), wrap_id (x := (S : Int) / 60) (by omega) (by omega), tmod_pos (by omega), tmod_pos (by omega)]
  rw [show (S : Int) / 3600 = ((S / 3600 : Nat) : Int) by omega, show (S : Int) / 60 % 60 = ((S / 60 % 60 : Nat) : Int) by omega, show (S : Int) % 60 = ((S % 60 : Nat) : Int) by omega]
  refine Ev.bind (digits4_ok Y (by omega) (by omega)) (Ev.pos (by simp only [ByteArray.size_append, mk_size, hw, hm, dg2_len, dg4_len, z1, z2, z3, z4]; omega) (Ev.pos (by simp only [ByteArray.size_append, mk_size, hw, hm, dg2_len, dg4_len, z1, z2, z3, z4]; omega) ?_))
  refine Ev.bind (digits2_ok (S / 3600) (by omega)) (Ev.pos (by simp only [ByteArray.size_append, mk_size, hw, hm, dg2_len, dg4_len, z1, z2, z3, z4]; omega) (Ev.pos (by simp only [ByteArray.size_append, mk_size, hw, hm, dg2_len, dg4_len, z1, z2, z3, z4]; omega) ?_))
  refine Ev.bind (digits2_ok (S / 60 % 60) (by omega)) (Ev.pos (by simp only [ByteArray.size_append, mk_size, hw, hm, dg2_len, dg4_len, z1, z2, z3, z4]; omega) (Ev.pos (by simp only [ByteArray.size_append, mk_size, hw, hm, dg2_len, dg4_len, z1, z2, z3, z4]; omega) ?_))
  refine Ev.bind (digits2_ok (S % 60) (by omega)) (Ev.pos (by simp only [ByteArray.size_append, mk_size, hw, hm, dg2_len, dg4_len, z1, z2, z3, z4]; omega) (Ev.pos (by simp only [ByteArray.size_append, mk_size, hw, hm, dg2_len, dg4_len, z1, z2, z3, z4]; omega) (Ev.tell ?_)))
  congr 1
  apply B_inj
  simp only [B_append, B_mk]
  unfold txtOf gmt
  simp only [List.append_assoc, List.cons_append, List.nil_append]
  rfl
theorem Print_loop (n y s : Int) (Y p dd S : Nat) (hY : y = Y) (y0 : 1601 ≤ Y) (y1 : Y ≤ 9999) (hp : p ≤ 11) (d0 : 1 ≤ dd) (d1 : (dd : Int) ≤ lenM y ((p : Int) + 1)) (hn : -1000000 ≤ n ∧ n ≤ 10000000) (hS : s = S) (s1 : S < 86400) : ∀ (j q : Nat), q + j = p →
    Ev (fun k => date_Print.l0 k n s y (sumM y p - sumM y q + dd - 1) ((q : Int) + 1)) (mk (txtOf (wkd n) dd (mth p) Y (S / 3600) (S / 60 % 60) (S % 60)), 0)
  | 0, q, he => by
    obtain rfl : q = p := by omega
    rw [show sumM y q - sumM y q + dd - 1 = (dd : Int) - 1 by omega]
    exact Print_fin n y s Y q dd S hY y0 y1 hp d0 d1 hn hS s1
  | j + 1, q, he => by
    have ll := lenM_range y ((p : Int) + 1)
    have l := lenM_range y ((q : Int) + 1)
    have r := sumM_range y p
    have r2 := sumM_range y q
    have e3 : sumM y (q + 1) = sumM y q + lenM y ((q : Int) + 1) := by simp only [sumM]
    have hle : ∀ i : Nat, sumM y (q + 1) ≤ sumM y (q + 1 + i) := by
      intro i
      induction i with
      | zero => exact Int.le_refl _
      | succ i ih =>
        have e : sumM y (q + 1 + (i + 1)) = sumM y (q + 1 + i) + lenM y (((q + 1 + i : Nat) : Int) + 1) := by rw [← Nat.add_assoc]; simp only [sumM]
        have := lenM_range y (((q + 1 + i : Nat) : Int) + 1)
        omega
    have h2 := hle j
    rw [show q + 1 + j = p by omega] at h2
    refine Ev.step (fun _ => date_Print.l0.eq_2 ..) (Ev.bind (length_ok (by omega)) (Ev.pos (by omega) ?_))
    rw [wrap_id (x := sumM y p - sumM y q + dd - 1 - _) (by omega) (by omega), wrap_id (x := (q : Int) + 1 + 1) (by omega) (by omega)]
    have z := Print_loop n y s Y p dd S hY y0 y1 hp d0 d1 hn hS s1 j (q + 1) (by omega)
    rw [e3, show sumM y p - (sumM y q + lenM y ((q : Int) + 1)) + dd - 1 = sumM y p - sumM y q + dd - 1 - lenM y ((q : Int) + 1) by omega, show ((q + 1 : Nat) : Int) + 1 = (q : Int) + 1 + 1 by omega] at z
    exact z
theorem Print_ok {t : Int} {y p dd : Nat} (h : PT t y p dd) : Ev (fun k => date_Print.f k t) (mk (txt t y p dd), 0) := by
  obtain ⟨c, d⟩ := h.year
  have hi := h.hi
  have f := firstY_range (y := y) (by have := h.y0; omega) (by have := h.y1; omega)
  unfold date_Print.f
  refine Ev.bnd (within_ok t) ?_
  rw [hi]
  unfold inR at hi
  simp only [Bool.and_eq_true, decide_eq_true_eq] at hi
  refine Ev.pos rfl (Ev.bnd (down_ok (by omega) (by omega)) (Ev.bind (yearOf_ok (by have := h.y0; omega) (by have := h.y1; omega) c d) ?_))
  have z := Print_loop (t / 86400) y (t % 86400) y p dd (t % 86400).toNat rfl h.y0 h.y1 h.p1 h.d0 h.d1 ⟨by omega, by omega⟩ (by omega) (by omega) p 0 (by omega)
  have e : sumM y p - sumM y 0 + dd - 1 = t / 86400 - firstY y := by
    have := h.eq
    simp only [sumM]
    omega
  rw [e] at z
  exact z
theorem Print_no {t : Int} (h : inR t = false) : Ev (fun k => date_Print.f k t) (mk [], 1) := by
  unfold date_Print.f
  refine Ev.bnd (within_ok t) ?_
  rw [h]
  exact Ev.neg (by simp) (Ev.now _)
theorem leapR_ok {y : Int} (h : 0 ≤ y) : sprref14_leap.f y = some (leapY y) := by
  unfold sprref14_leap.f leapY
  rw [tmod_pos h, tmod_pos h, tmod_pos h]
  by_cases a : y % 4 = 0
  · rw [if_pos a]
    by_cases b : y % 100 = 0
    · rw [if_pos b]; simp [a, b]; rfl
    · rw [if_neg b]; simp [a, b]
  · rw [if_neg a]; simp [a]
theorem lengthR_ok {y m : Int} (h : 0 ≤ y) : Ev (fun k => sprref14_length.f k y m) (lenM y m) := by
  have j : ∀ b : Bool, b = decide (m = 4 ∨ m = 6 ∨ m = 9 ∨ m = 11) → Ev (fun k => sprref14_length.j0 k y m b) (lenM y m) := by
    intro b hb
    refine Ev.step (fun _ => sprref14_length.j0.eq_2 ..) ?_
    by_cases q : m = 4 ∨ m = 6 ∨ m = 9 ∨ m = 11
    · exact Ev.pos (by rw [hb]; exact decide_eq_true q) (Ev.tell (by unfold lenM; rw [if_neg (by omega), if_pos q]))
    · refine Ev.neg (by rw [hb, decide_eq_false q]; simp) ?_
      by_cases a : m = 2
      · refine Ev.pos a (Ev.bnd (leapR_ok h) ?_)
        unfold lenM
        rw [if_pos a]
        cases b : leapY y
        · exact Ev.neg (by simp) (Ev.now _)
        · exact Ev.pos rfl (Ev.now _)
      · exact Ev.neg a (Ev.tell (by unfold lenM; rw [if_neg a, if_neg q]))
  have e : ∀ (n : Int) , (m == n) = decide (m = n) := fun n => by rw [Bool.eq_iff_iff]; simp
  unfold sprref14_length.f
  by_cases a : m = 4
  · exact Ev.pos a (j _ (by rw [e]; simp [a]))
  refine Ev.neg a ?_
  by_cases b : m = 6
  · exact Ev.pos b (j _ (by rw [e]; simp [b]))
  refine Ev.neg b ?_
  by_cases c : m = 9
  · exact Ev.pos c (j _ (by rw [e]; simp [c]))
  · exact Ev.neg c (j _ (by rw [e]; simp [a, b, c]))
theorem firstR_ok {y : Int} (h0 : 1 ≤ y) (h1 : y ≤ 20000) : sprref14_first.f y = some (firstY y) := by
  unfold sprref14_first.f
  rw [wrap_id (x := y - 1) (by omega) (by omega), tdiv_pos (by omega), tdiv_pos (by omega), tdiv_pos (by omega)]
  simp (disch := omega) only [wrap_id]
  unfold firstY
  congr 1
  omega
theorem in_ok (t : Int) : sprref14_in.f t = some (inR t) := by
  unfold sprref14_in.f inR
  rw [firstR_ok (y := 1601) (by omega) (by omega), firstR_ok (y := 10000) (by omega) (by omega)]
  have e1 : firstY 1601 = -134774 := by decide
  have e2 : firstY 10000 = 2932897 := by decide
  simp only [Option.bind_some, e1, e2]
  have w1 : wrap64 (-134774 * 86400) = -11644473600 := wrap_id (by omega) (by omega)
  have w2 : wrap64 (2932897 * 86400) = 253402300800 := wrap_id (by omega) (by omega)
  rw [w1, w2]
  by_cases h : t ≥ -11644473600
  · rw [if_pos h, decide_eq_true h]; rfl
  · rw [if_neg h, decide_eq_false h]; rfl
theorem split_l1 (t n y d : Int) (hy : 1 ≤ y ∧ y ≤ 9999) (ht : -9000000000000 ≤ t ∧ t ≤ 9000000000000) (hn : -100000000 ≤ n ∧ n ≤ 100000000) (hd : d ≤ 400) : ∀ (j p : Nat), p + j ≤ 11 → sumM y (p + j) ≤ d → d < sumM y (p + j + 1) →
    Ev (fun k => sprref14_split.l1 k t n y (d - sumM y p) ((p : Int) + 1)) (y, (p : Int) + j + 1, d - sumM y (p + j) + 1, t - n * 86400)
  | 0, p, hp, h0, h1 => by
    have r := sumM_range y p
    have e3 : sumM y (p + 1) = sumM y p + lenM y ((p : Int) + 1) := by simp only [sumM]
    simp only [Nat.add_zero] at h0 h1 ⊢
    rw [e3] at h1
    refine Ev.step (fun _ => sprref14_split.l1.eq_2 ..) (Ev.bind (lengthR_ok (by omega)) (Ev.neg (by omega) (Ev.tell ?_)))
    simp (disch := omega) only [wrap_id]
    simp
  | j + 1, p, hp, h0, h1 => by
    have r := sumM_range y p
    have l := lenM_range y ((p : Int) + 1)
    have e3 : sumM y (p + 1) = sumM y p + lenM y ((p : Int) + 1) := by simp only [sumM]
    have hle : ∀ i : Nat, sumM y (p + 1) ≤ sumM y (p + 1 + i) := by
      intro i
      induction i with
      | zero => exact Int.le_refl _
      | succ i ih =>
        have e : sumM y (p + 1 + (i + 1)) = sumM y (p + 1 + i) + lenM y (((p + 1 + i : Nat) : Int) + 1) := by rw [← Nat.add_assoc]; simp only [sumM]
        have := lenM_range y (((p + 1 + i : Nat) : Int) + 1)
        omega
    have e4 : p + 1 + j = p + (j + 1) := by omega
    have q := hle j
    rw [e4] at q
    refine Ev.step (fun _ => sprref14_split.l1.eq_2 ..) (Ev.bind (lengthR_ok (by omega)) (Ev.pos (by omega) ?_))
    rw [wrap_id (x := d - sumM y p - _) (by omega) (by omega), wrap_id (x := (p : Int) + 1 + 1) (by omega) (by omega)]
    have z := split_l1 t n y d hy ht hn hd j (p + 1) (by omega) (by rw [e4]; exact h0) (by rw [e4]; exact h1)
    rw [e3, e4, show d - (sumM y p + lenM y ((p : Int) + 1)) = d - sumM y p - lenM y ((p : Int) + 1) by omega, show ((p + 1 : Nat) : Int) + 1 = (p : Int) + 1 + 1 by omega, show ((p + 1 : Nat) : Int) + (j : Int) + 1 = (p : Int) + ((j + 1 : Nat) : Int) + 1 by omega] at z
    exact z
theorem month_ex (y d : Int) (h0 : 0 ≤ d) : ∀ m : Nat, d < sumM y m → ∃ p, p < m ∧ sumM y p ≤ d ∧ d < sumM y (p + 1)
  | 0, h => by simp [sumM] at h; omega
  | m + 1, h => by
    by_cases c : d < sumM y m
    · obtain ⟨p, a, b⟩ := month_ex y d h0 m c
      exact ⟨p, by omega, b⟩
    · exact ⟨m, by omega, by omega, h⟩
theorem split_l0 (t n y : Int) (hy : y ≤ 9999) (h0 : firstY y ≤ n) (h1 : n < firstY (y + 1)) (ht : -9000000000000 ≤ t ∧ t ≤ 9000000000000) (hn : -1000000 ≤ n ∧ n ≤ 10000000) {p : Nat} (hp : p ≤ 11) (p0 : sumM y p ≤ n - firstY y) (p1 : n - firstY y < sumM y (p + 1)) : ∀ (j : Nat) (x : Int), 1 ≤ x → x + j = y →
    Ev (fun k => sprref14_split.l0 k t n x) (y, (p : Int) + 1, n - firstY y - sumM y p + 1, t - n * 86400)
  | 0, x, hx, he => by
    obtain rfl : x = y := by omega
    have f := firstY_range (y := x) (by omega) (by omega)
    have f2 := firstY_lt (y := x)
    refine Ev.step (fun _ => sprref14_split.l0.eq_2 ..) ?_
    rw [wrap_id (x := x + 1) (by omega) (by omega)]
    refine Ev.bnd (firstR_ok (by omega) (by omega)) (Ev.neg (by omega) (Ev.bnd (firstR_ok (by omega) (by omega)) ?_))
    rw [wrap_id (by omega) (by omega)]
    have z := split_l1 t n x (n - firstY x) ⟨by omega, by omega⟩ ht ⟨by omega, by omega⟩ (by omega) p 0 (by omega) (by rw [Nat.zero_add]; exact p0) (by rw [Nat.zero_add]; exact p1)
    simp only [Nat.zero_add, sumM, Int.sub_zero] at z
    have e : ((0 : Nat) : Int) + (p : Int) + 1 = (p : Int) + 1 := by omega
    rw [e] at z
    exact z
  | j + 1, x, hx, he => by
    have q := firstY_le (show x + 1 ≤ y by omega)
    refine Ev.step (fun _ => sprref14_split.l0.eq_2 ..) ?_
    rw [wrap_id (x := x + 1) (by omega) (by omega)]
    exact Ev.bnd (firstR_ok (by omega) (by omega)) (Ev.pos (by omega) (split_l0 t n y hy h0 h1 ht hn hp p0 p1 j (x + 1) (by omega) (by omega)))
theorem split_ok {t y : Int} (hi : inR t = true) (ha : 1601 ≤ y) (hy : y ≤ 9999) (h0 : firstY y ≤ t / 86400) (h1 : t / 86400 < firstY (y + 1)) :
    ∃ p : Nat, p ≤ 11 ∧ sumM y p ≤ t / 86400 - firstY y ∧ t / 86400 - firstY y < sumM y (p + 1) ∧ Ev (fun k => sprref14_split.f k t) (y, (p : Int) + 1, t / 86400 - firstY y - sumM y p + 1, t % 86400) := by
  unfold inR at hi
  simp only [Bool.and_eq_true, decide_eq_true_eq] at hi
  have e := sumM_year y
  obtain ⟨p, a, b, c⟩ := month_ex y (t / 86400 - firstY y) (by omega) 12 (by omega)
  refine ⟨p, by omega, b, c, ?_⟩
  have z := split_l0 t (t / 86400) y hy h0 h1 ⟨by omega, by omega⟩ ⟨by omega, by omega⟩ (by omega) b c (y - 1601).toNat 1601 (by omega) (by omega)
  rw [show t - t / 86400 * 86400 = t % 86400 by omega] at z
  have w : Ev (fun k => sprref14_split.j0 k t (t / 86400)) (y, (p : Int) + 1, t / 86400 - firstY y - sumM y p + 1, t % 86400) := Ev.step (fun _ => sprref14_split.j0.eq_2 ..) z
  unfold sprref14_split.f
  have d := day_split t
  refine Ev.ite (fun q => ?_) (fun q => ?_)
  · rw [wrap_id (x := Int.tdiv t 86400) (by omega) (by omega), (d.1 q).1, wrap_id (by omega) (by omega)]
    exact w
  · rw [(d.2 q).1, wrap_id (by omega) (by omega)]
    exact w
theorem two_ok (n : Nat) (h : n ≤ 1000000) : sprref14_two.f (n : Int) = some (mk (dg2 n)) := by
  unfold sprref14_two.f
  rw [tdiv_pos (by omega), wrap_id (x := (n : Int) / 10) (by omega) (by omega), tmod_pos (by omega), tmod_pos (by omega), wrap_id (by omega) (by omega), wrap_id (by omega) (by omega)]
  rw [show (48 + (n : Int) / 10 % 10) % 256 = ((48 + n / 10 % 10 : Nat) : Int) by omega, show (48 + (n : Int) % 10) % 256 = ((48 + n % 10 : Nat) : Int) by omega]
  rfl
theorem PrintR_fin (n s : Int) (Y p dd S : Nat) (y0 : 1601 ≤ Y) (y1 : Y ≤ 9999) (hp : p ≤ 11) (d1 : dd ≤ 31) (hn : -1000000 ≤ n ∧ n ≤ 10000000) (hS : s = S) (s1 : S < 86400) :
    Ev (fun k => sprref14_Print.j0 k (Y : Int) ((p : Int) + 1) (dd : Int) s n) (mk (txtOf (wkd n) dd (mth p) Y (S / 3600) (S / 60 % 60) (S % 60)), 0) := by
  have hw : (wkd n).length = 3 := wkd_len n
  have hm : (mth p).length = 3 := mth_len p hp
  obtain ⟨D, hD⟩ : ∃ D, sprref14_days.f = some D := ⟨_, rfl⟩
  have eD : D.map B = dayR := by rw [← Option.some.inj hD]; rfl
  obtain ⟨M, hM⟩ : ∃ M, sprref14_months.f = some M := ⟨_, rfl⟩
  have eM : M.map B = monL := by rw [← Option.some.inj hM]; rfl
  obtain ⟨rM, lM⟩ := rd_at eM p (show p < 12 by omega)
  obtain ⟨i, hi⟩ : ∃ i : Nat, n % 7 = i := ⟨(n % 7).toNat, by omega⟩
  obtain ⟨rD, lD⟩ := rd_at eD i (show i < 7 by omega)
  have ei : Int.tmod (wrap64 ((Int.tmod n 7) + 7)) 7 = i := by
    have hb : -7 < Int.tmod n 7 ∧ Int.tmod n 7 < 7 := ⟨by have := Int.lt_tmod_of_pos n (show (0 : Int) < 7 by omega); omega, Int.tmod_lt_of_pos n (by omega)⟩
    have hq : Int.tmod n 7 % 7 = n % 7 := by
      have := Int.tmod_add_mul_tdiv n 7
      omega
    rw [wrap_id (by omega) (by omega), tmod_pos (by omega)]
    omega
  have xD : rdOf ByteArray.empty D (i : Int) = mk (wkd n) := by
    rw [rD]
    unfold wkd
    rw [hi, Int.toNat_natCast]
  refine Ev.step (fun _ => sprref14_Print.j0.eq_2 ..) (Ev.bnd hD ?_)
  rw [ei, xD]
  refine Ev.pos (by omega) (Ev.pos lD (Ev.pos (by simp only [ByteArray.size_append, mk_size, hw, hm, dg2_len, dg4_len, z1, z2, z3, z4]; omega) (Ev.bnd (two_ok dd (by omega)) (Ev.pos (by simp only [ByteArray.size_append, mk_size, hw, hm, dg2_len, dg4_len, z1, z2, z3, z4]; omega) (Ev.pos (by simp only [ByteArray.size_append, mk_size, hw, hm, dg2_len, dg4_len, z1, z2, z3, z4]; omega) (Ev.bnd hM ?_))))))
  rw [wrap_id (x := (p : Int) + 1 - 1) (by omega) (by omega), show (p : Int) + 1 - 1 = p by omega, rM]
  rw [show monL.getD p [] = mth p from rfl]
  refine Ev.pos (by omega) (Ev.pos lM (Ev.pos (by simp only [ByteArray.size_append, mk_size, hw, hm, dg2_len, dg4_len, z1, z2, z3, z4]; omega) (Ev.pos (by simp only [ByteArray.size_append, mk_size, hw, hm, dg2_len, dg4_len, z1, z2, z3, z4]; omega) ?_)))
  rw [hS, tdiv_pos (a := (Y : Int)) (by omega), tdiv_pos (by omega), tdiv_pos (by omega), wrap_id (x := (Y : Int) / 100) (by omega) (by omega), wrap_id (x := (S : Int) / 3600) (by omega) (by omega), wrap_id (x := (S : Int) / 60) (by omega) (by omega), tmod_pos (by omega), tmod_pos (by omega)]
  rw [show (Y : Int) / 100 = ((Y / 100 : Nat) : Int) by omega, show (S : Int) / 3600 = ((S / 3600 : Nat) : Int) by omega, show (S : Int) / 60 % 60 = ((S / 60 % 60 : Nat) : Int) by omega, show (S : Int) % 60 = ((S % 60 : Nat) : Int) by omega]
  refine Ev.bnd (two_ok (Y / 100) (by omega)) (Ev.pos (by simp only [ByteArray.size_append, mk_size, hw, hm, dg2_len, dg4_len, z1, z2, z3, z4]; omega) (Ev.bnd (two_ok Y (by omega)) (Ev.pos (by simp only [ByteArray.size_append, mk_size, hw, hm, dg2_len, dg4_len, z1, z2, z3, z4]; omega) (Ev.pos (by simp only [ByteArray.size_append, mk_size, hw, hm, dg2_len, dg4_len, z1, z2, z3, z4]; omega) ?_))))
  refine Ev.bnd (two_ok (S / 3600) (by omega)) (Ev.pos (by simp only [ByteArray.size_append, mk_size, hw, hm, dg2_len, dg4_len, z1, z2, z3, z4]; omega) (Ev.pos (by simp only [ByteArray.size_append, mk_size, hw, hm, dg2_len, dg4_len, z1, z2, z3, z4]; omega) ?_))
  refine Ev.bnd (two_ok (S / 60 % 60) (by omega)) (Ev.pos (by simp only [ByteArray.size_append, mk_size, hw, hm, dg2_len, dg4_len, z1, z2, z3, z4]; omega) (Ev.pos (by simp only [ByteArray.size_append, mk_size, hw, hm, dg2_len, dg4_len, z1, z2, z3, z4]; omega) ?_))
  refine Ev.bnd (two_ok (S % 60) (by omega)) (Ev.pos (by simp only [ByteArray.size_append, mk_size, hw, hm, dg2_len, dg4_len, z1, z2, z3, z4]; omega) (Ev.pos (by simp only [ByteArray.size_append, mk_size, hw, hm, dg2_len, dg4_len, z1, z2, z3, z4]; omega) (Ev.tell ?_)))
  congr 1
  apply B_inj
  simp only [B_append, B_mk]
  unfold txtOf gmt dg4
  simp only [List.append_assoc, List.cons_append, List.nil_append]
  rfl
theorem PrintR_ok {t : Int} {y p dd : Nat} (h : PT t y p dd) : Ev (fun k => sprref14_Print.f k t) (mk (txt t y p dd), 0) := by
  obtain ⟨c, d⟩ := h.year
  have hi := h.hi
  have y0 := h.y0
  have y1 := h.y1
  have p1 := h.p1
  obtain ⟨q, q1, q2, q3, w⟩ := split_ok hi (by omega) (by omega) c d
  have hle : ∀ (a b : Nat), a ≤ b → sumM y a ≤ sumM y b := by
    intro a b hab
    obtain ⟨i, rfl⟩ : ∃ i, b = a + i := ⟨b - a, by omega⟩
    induction i with
    | zero => exact Int.le_refl _
    | succ i ih =>
      have e : sumM y (a + (i + 1)) = sumM y (a + i) + lenM y (((a + i : Nat) : Int) + 1) := by rw [← Nat.add_assoc]; simp only [sumM]
      have := lenM_range y (((a + i : Nat) : Int) + 1)
      have := ih (by omega)
      omega
  have e3 : sumM y (p + 1) = sumM y p + lenM y ((p : Int) + 1) := by simp only [sumM]
  have eq := h.eq
  have d0 := h.d0
  have d1 := h.d1
  have ll := lenM_range y ((p : Int) + 1)
  have hpq : q = p := by
    by_cases c1 : q < p
    · have := hle (q + 1) p (by omega); omega
    · by_cases c2 : p < q
      · have := hle (p + 1) q (by omega); omega
      · omega
  subst hpq
  rw [show t / 86400 - firstY y - sumM y q + 1 = (dd : Int) by omega] at w
  unfold sprref14_Print.f
  refine Ev.bnd (in_ok t) ?_
  rw [hi]
  have z := PrintR_fin (t / 86400) (t % 86400) y q dd (t % 86400).toNat y0 y1 p1 (by omega) (by unfold inR at hi; simp only [Bool.and_eq_true, decide_eq_true_eq] at hi; omega) (by omega) (by omega)
  have ds := day_split t
  unfold inR at hi
  simp only [Bool.and_eq_true, decide_eq_true_eq] at hi
  refine Ev.pos rfl (Ev.bind w (Ev.ite (fun k => ?_) (fun k => ?_)))
  · rw [wrap_id (x := Int.tdiv t 86400) (by omega) (by omega), (ds.1 k).1, wrap_id (by omega) (by omega)]
    exact z
  · rw [(ds.2 k).1, wrap_id (by omega) (by omega)]
    exact z
theorem PrintR_no {t : Int} (h : inR t = false) : Ev (fun k => sprref14_Print.f k t) (mk [], 1) := by
  unfold sprref14_Print.f
  refine Ev.bnd (in_ok t) ?_
  rw [h]
  exact Ev.neg (by simp) (Ev.now _)
theorem date_Make_loop (y h mi s : Int) (hy : 1 ≤ y ∧ y ≤ 10000) (hh : 0 ≤ h ∧ h ≤ 23) (hm : 0 ≤ mi ∧ mi ≤ 59) (hs : 0 ≤ s ∧ s ≤ 60) : ∀ (j p : Nat) (n : Int), p + j ≤ 11 → -10000000 ≤ n → n + 31 * j ≤ 10000000 →
    Ev (fun k => date_Make.l0 k y ((p : Int) + 1 + j) h mi s n ((p : Int) + 1)) ((n + (sumM y (p + j) - sumM y p)) * 86400 + h * 3600 + mi * 60 + mn s 59, true)
  | 0, p, n, hp, h0, h1 => by
    have q : 0 ≤ mn s 59 ∧ mn s 59 ≤ 59 := by unfold mn; split <;> omega
    refine Ev.step (fun _ => date_Make.l0.eq_2 ..) (Ev.neg (by omega) (Ev.tell ?_))
    simp (disch := omega) only [wrap_id]
    rw [Nat.add_zero]
    congr 1
    omega
  | j + 1, p, n, hp, h0, h1 => by
    have l := lenM_range y ((p : Int) + 1)
    refine Ev.step (fun _ => date_Make.l0.eq_2 ..) (Ev.pos (by omega) (Ev.bind (length_ok (by omega)) ?_))
    rw [wrap_id (x := n + _) (by omega) (by omega), wrap_id (x := (p : Int) + 1 + 1) (by omega) (by omega)]
    have r := date_Make_loop y h mi s hy hh hm hs j (p + 1) (n + lenM y ((p : Int) + 1)) (by omega) (by omega) (by omega)
    have e1 : ((p + 1 : Nat) : Int) + 1 + (j : Int) = (p : Int) + 1 + ((j + 1 : Nat) : Int) := by omega
    have e2 : ((p + 1 : Nat) : Int) + 1 = (p : Int) + 1 + 1 := by omega
    have e3 : sumM y (p + 1) = sumM y p + lenM y ((p : Int) + 1) := by simp only [sumM]
    have e4 : p + 1 + j = p + (j + 1) := by omega
    rw [e1, e2, e3, e4] at r
    have e5 : n + lenM y ((p : Int) + 1) + (sumM y (p + (j + 1)) - (sumM y p + lenM y ((p : Int) + 1))) = n + (sumM y (p + (j + 1)) - sumM y p) := by omega
    rw [e5] at r
    exact r
theorem date_Make_ok (y mo d h mi s : Int) : Ev (fun k => date_Make.f k y mo d h mi s) (makeOf y mo d h mi s) := by
  have bad : badM y mo d h mi s → Ev (fun k => date_Make.j0 k y mo d h mi s true) (makeOf y mo d h mi s) := fun hb =>
    Ev.step (fun _ => date_Make.j0.eq_2 ..) (Ev.pos rfl (Ev.tell (if_pos hb).symm))
  unfold date_Make.f
  refine Ev.ite (fun c => bad (by unfold badM; omega)) (fun c1 => ?_)
  refine Ev.ite (fun c => bad (by unfold badM; omega)) (fun c2 => ?_)
  refine Ev.ite (fun c => bad (by unfold badM; omega)) (fun c3 => ?_)
  refine Ev.ite (fun c => bad (by unfold badM; omega)) (fun c4 => ?_)
  refine Ev.ite (fun c => bad (by unfold badM; omega)) (fun c5 => ?_)
  refine Ev.bind (length_ok (by omega)) ?_
  refine Ev.ite (fun c => bad (by unfold badM; omega)) (fun c6 => ?_)
  refine Ev.ite (fun c => bad (by unfold badM; omega)) (fun c7 => ?_)
  refine Ev.ite (fun c => bad (by unfold badM; omega)) (fun c8 => ?_)
  refine Ev.ite (fun c => bad (by unfold badM; omega)) (fun c9 => ?_)
  refine Ev.ite (fun c => bad (by unfold badM; omega)) (fun c10 => ?_)
  refine Ev.ite (fun c => bad (by unfold badM; omega)) (fun c11 => ?_)
  by_cases c12 : s > 60
  · rw [decide_eq_true c12]; exact bad (by unfold badM; omega)
  · rw [decide_eq_false c12]
    refine Ev.step (fun _ => date_Make.j0.eq_2 ..) (Ev.neg (by simp) (Ev.bnd (first_ok' (by omega) (by omega)) ?_))
    have l := lenM_range y mo
    have f := firstY_range (y := y) (by omega) (by omega)
    rw [wrap_id (x := firstY y + d) (by omega) (by omega), wrap_id (x := firstY y + d - 1) (by omega) (by omega)]
    have r := date_Make_loop y h mi s ⟨by omega, by omega⟩ ⟨by omega, by omega⟩ ⟨by omega, by omega⟩ ⟨by omega, by omega⟩ (mo - 1).toNat 0 (firstY y + d - 1) (by omega) (by omega) (by omega)
    have e1 : (((0 : Nat) : Int) + 1 + ((mo - 1).toNat : Int)) = mo := by omega
    rw [e1] at r
    have e2 : makeOf y mo d h mi s = ((firstY y + d - 1 + (sumM y (0 + (mo - 1).toNat) - sumM y 0)) * 86400 + h * 3600 + mi * 60 + mn s 59, true) := by
      unfold makeOf
      rw [if_neg (by unfold badM; omega), Nat.zero_add]
      simp [sumM]
    rw [e2]
    exact r
theorem sprref14_Make_loop (y h mi s : Int) (hy : 1 ≤ y ∧ y ≤ 10000) (hh : 0 ≤ h ∧ h ≤ 23) (hm : 0 ≤ mi ∧ mi ≤ 59) (hs : 0 ≤ s ∧ s ≤ 60) : ∀ (j p : Nat) (n : Int), p + j ≤ 11 → -10000000 ≤ n → n + 31 * j ≤ 10000000 →
    Ev (fun k => sprref14_Make.l0 k y ((p : Int) + 1 + j) h mi s n ((p : Int) + 1)) ((n + (sumM y (p + j) - sumM y p)) * 86400 + h * 3600 + mi * 60 + mn s 59, true)
  | 0, p, n, hp, h0, h1 => by
    have q : 0 ≤ mn s 59 ∧ mn s 59 ≤ 59 := by unfold mn; split <;> omega
    refine Ev.step (fun _ => sprref14_Make.l0.eq_2 ..) (Ev.neg (by omega) (Ev.tell ?_))
    simp (disch := omega) only [wrap_id]
    rw [Nat.add_zero]
    congr 1
    omega
  | j + 1, p, n, hp, h0, h1 => by
    have l := lenM_range y ((p : Int) + 1)
    refine Ev.step (fun _ => sprref14_Make.l0.eq_2 ..) (Ev.pos (by omega) (Ev.bind (lengthR_ok (by omega)) ?_))
    rw [wrap_id (x := n + _) (by omega) (by omega), wrap_id (x := (p : Int) + 1 + 1) (by omega) (by omega)]
    have r := sprref14_Make_loop y h mi s hy hh hm hs j (p + 1) (n + lenM y ((p : Int) + 1)) (by omega) (by omega) (by omega)
    have e1 : ((p + 1 : Nat) : Int) + 1 + (j : Int) = (p : Int) + 1 + ((j + 1 : Nat) : Int) := by omega
    have e2 : ((p + 1 : Nat) : Int) + 1 = (p : Int) + 1 + 1 := by omega
    have e3 : sumM y (p + 1) = sumM y p + lenM y ((p : Int) + 1) := by simp only [sumM]
    have e4 : p + 1 + j = p + (j + 1) := by omega
    rw [e1, e2, e3, e4] at r
    have e5 : n + lenM y ((p : Int) + 1) + (sumM y (p + (j + 1)) - (sumM y p + lenM y ((p : Int) + 1))) = n + (sumM y (p + (j + 1)) - sumM y p) := by omega
    rw [e5] at r
    exact r
theorem sprref14_Make_ok (y mo d h mi s : Int) : Ev (fun k => sprref14_Make.f k y mo d h mi s) (makeOf y mo d h mi s) := by
  have bad : badM y mo d h mi s → Ev (fun k => sprref14_Make.j0 k y mo d h mi s true) (makeOf y mo d h mi s) := fun hb =>
    Ev.step (fun _ => sprref14_Make.j0.eq_2 ..) (Ev.pos rfl (Ev.tell (if_pos hb).symm))
  unfold sprref14_Make.f
  refine Ev.ite (fun c => bad (by unfold badM; omega)) (fun c1 => ?_)
  refine Ev.ite (fun c => bad (by unfold badM; omega)) (fun c2 => ?_)
  refine Ev.ite (fun c => bad (by unfold badM; omega)) (fun c3 => ?_)
  refine Ev.ite (fun c => bad (by unfold badM; omega)) (fun c4 => ?_)
  refine Ev.ite (fun c => bad (by unfold badM; omega)) (fun c5 => ?_)
  refine Ev.bind (lengthR_ok (by omega)) ?_
  refine Ev.ite (fun c => bad (by unfold badM; omega)) (fun c6 => ?_)
  refine Ev.ite (fun c => bad (by unfold badM; omega)) (fun c7 => ?_)
  refine Ev.ite (fun c => bad (by unfold badM; omega)) (fun c8 => ?_)
  refine Ev.ite (fun c => bad (by unfold badM; omega)) (fun c9 => ?_)
  refine Ev.ite (fun c => bad (by unfold badM; omega)) (fun c10 => ?_)
  refine Ev.ite (fun c => bad (by unfold badM; omega)) (fun c11 => ?_)
  by_cases c12 : s > 60
  · rw [decide_eq_true c12]; exact bad (by unfold badM; omega)
  · rw [decide_eq_false c12]
    refine Ev.step (fun _ => sprref14_Make.j0.eq_2 ..) (Ev.neg (by simp) (Ev.bnd (firstR_ok (by omega) (by omega)) ?_))
    have l := lenM_range y mo
    have f := firstY_range (y := y) (by omega) (by omega)
    rw [wrap_id (x := firstY y + d) (by omega) (by omega), wrap_id (x := firstY y + d - 1) (by omega) (by omega)]
    have r := sprref14_Make_loop y h mi s ⟨by omega, by omega⟩ ⟨by omega, by omega⟩ ⟨by omega, by omega⟩ ⟨by omega, by omega⟩ (mo - 1).toNat 0 (firstY y + d - 1) (by omega) (by omega) (by omega)
    have e1 : (((0 : Nat) : Int) + 1 + ((mo - 1).toNat : Int)) = mo := by omega
    rw [e1] at r
    have e2 : makeOf y mo d h mi s = ((firstY y + d - 1 + (sumM y (0 + (mo - 1).toNat) - sumM y 0)) * 86400 + h * 3600 + mi * 60 + mn s 59, true) := by
      unfold makeOf
      rw [if_neg (by unfold badM; omega), Nat.zero_add]
      simp [sumM]
    rw [e2]
    exact r
theorem dfirst_ok : Ev (fun k => sprlaw15_first.f k) true := Ev.of (fun k => sprlaw15_first.mono k) (k := 60) (by kernel_rfl)
theorem DatePrints (t y mo d h mi s : Int) (g0 : (Lit.int .i64 t).wf = true) (g1 : (Lit.int .i64 y).wf = true) (g2 : (Lit.int .i64 mo).wf = true) (g3 : (Lit.int .i64 d).wf = true) (g4 : (Lit.int .i64 h).wf = true) (g5 : (Lit.int .i64 mi).wf = true) (g6 : (Lit.int .i64 s).wf = true) : ∃ k, sprlaw15_DatePrints.f k t y mo d h mi s = some true := by
  apply Ev.rounds
  have both : ∃ r : ByteArray × Int, Ev (fun k => date_Print.f k t) r ∧ Ev (fun k => sprref14_Print.f k t) r := by
    cases hi : inR t
    · exact ⟨_, Print_no hi, PrintR_no hi⟩
    · obtain ⟨Y, p, dd, h, -⟩ := PT_ex hi
      exact ⟨_, Print_ok h, PrintR_ok h⟩
  obtain ⟨r, r1, r2⟩ := both
  unfold sprlaw15_DatePrints.f
  refine Ev.bind dfirst_ok (Ev.pos rfl (Ev.bind r1 (Ev.bind r2 (Ev.bind (date_Make_ok y mo d h mi s) (Ev.bind (sprref14_Make_ok y mo d h mi s) (Ev.bind dfirst_ok (Ev.pos rfl ?_)))))))
  exact Ev.pos rfl (Ev.pos rfl (Ev.pos rfl (Ev.tell (by simp))))

end Go.Proofs.YtnkmhgfhdgledaaDoor.Pure
