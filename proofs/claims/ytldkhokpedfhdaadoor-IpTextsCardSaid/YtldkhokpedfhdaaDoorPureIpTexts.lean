/-
The law IpTexts, over the Lean functions that its walk computes: the program's and the reference's numbers of machines are the same for every text.
-/
import Derived.Test.YtldkhokpedfhdaaDoorQ10
set_option linter.unusedVariables false
set_option linter.unusedSimpArgs false
namespace Go.Proofs.YtldkhokpedfhdaaDoor.Pure
open Go.RowKit Go.Proofs.YtldkhokpedfhdaaDoor.Q Go.Proofs.YtldkhokpedfhdaaDoorW.PrintWords Go.Proofs.YtldkhokpedfhdaaDoorW.PrintLast
theorem wrap_id {x : Int} (h0 : -9223372036854775808 ≤ x) (h1 : x ≤ 9223372036854775807) : wrap64 x = x := by unfold wrap64; omega
theorem Ev.succ {α : Type} {g : Nat → Option α} {r : α} (h : Ev (fun k => g (k + 1)) r) : Ev g r := Ev.step (fun _ => rfl) h
theorem Ev.konst {α : Type} {o : Option α} {r : α} (h : o = some r) : Ev (fun _ => o) r := ⟨0, fun _ _ => h⟩
theorem Ev.at {α : Type} {g : Nat → Option α} {r : α} (K : Nat) (h : ∀ k, g (k + K) = some r) : Ev g r := ⟨K, fun n hn => by
  obtain ⟨m, rfl⟩ : ∃ m, n = m + K := ⟨n - K, by omega⟩
  exact h m⟩
theorem drop_cons {α : Type} {l : List α} {i : Nat} {c : α} {t : List α} (h : l.drop i = c :: t) : i < l.length ∧ l[i]? = some c ∧ l.drop (i + 1) = t := by
  have h1 : (l.drop i)[0]? = some c := by rw [h]; rfl
  rw [List.getElem?_drop] at h1
  simp only [Nat.add_zero] at h1
  refine ⟨(List.getElem?_eq_some_iff.1 h1).1, h1, ?_⟩
  rw [← List.drop_drop, h]; rfl
theorem drop_nil {α : Type} {l : List α} {i : Nat} (h : l.drop i = []) : l.length ≤ i := by
  simpa using h
theorem rd_of {l : List Int} {i : Nat} {c : Int} (h : l[i]? = some c) : rd l (i : Int) = c := by
  unfold rd; rw [Int.toNat_natCast, List.getD_eq_getElem?_getD, h]; rfl
theorem rdOf_of {α : Type} {d : α} {l : List α} {i : Nat} {c : α} (h : l[i]? = some c) : rdOf d l (i : Int) = c := by
  unfold rdOf; rw [Int.toNat_natCast, List.getD_eq_getElem?_getD, h]; rfl
theorem cast_succ (i : Nat) : ((i : Int) + 1) = ((i + 1 : Nat) : Int) := by omega
theorem Ev.tell {α : Type} {a r : α} (h : a = r) : Ev (fun _ => some a) r := h ▸ Ev.now a
theorem Ev.pos {α : Type} {c : Prop} [Decidable c] {A B : Nat → Option α} {r : α} (h : c) (k : Ev A r) : Ev (fun n => if c then A n else B n) r := Ev.congr (fun _ => if_pos h) k
theorem Ev.neg {α : Type} {c : Prop} [Decidable c] {A B : Nat → Option α} {r : α} (h : ¬ c) (k : Ev B r) : Ev (fun n => if c then A n else B n) r := Ev.congr (fun _ => if_neg h) k
theorem Ev.ite {α : Type} {c : Prop} [Decidable c] {A B : Nat → Option α} {r : α} (h : c → Ev A r) (k : ¬ c → Ev B r) : Ev (fun n => if c then A n else B n) r := by
  by_cases q : c
  · exact Ev.pos q (h q)
  · exact Ev.neg q (k q)
theorem Ev.bnd {α β : Type} {o : Option β} {a : β} {f : Nat → β → Option α} {r : α} (h : o = some a) (k : Ev (fun n => f n a) r) : Ev (fun n => o.bind (f n)) r := by
  subst h; exact k
/-- A text's bytes. -/
def B (s : ByteArray) : List UInt8 := s.data.toList
def mk (l : List UInt8) : ByteArray := ⟨l.toArray⟩
theorem B_mk (l : List UInt8) : B (mk l) = l := rfl
theorem mk_B (s : ByteArray) : mk (B s) = s := rfl
theorem B_inj {s t : ByteArray} (h : B s = B t) : s = t := by rw [← mk_B s, ← mk_B t, h]
theorem toList_B (s : ByteArray) : s.toList = B s := Lib.toList_data s
theorem size_B (s : ByteArray) : s.size = (B s).length := Lib.size_eq s
theorem B_extract (s : ByteArray) (a b : Nat) : B (s.extract a b) = ((B s).drop a).take (b - a) := Lib.extract_data s a b
theorem B_append (s t : ByteArray) : B (s ++ t) = B s ++ B t := by
  unfold B
  rw [ByteArray.data_append, Array.toList_append]
theorem B_to (s : ByteArray) (n : Nat) : B (s.extract 0 n) = (B s).take n := by rw [B_extract, List.drop_zero, Nat.sub_zero]
theorem B_from (s : ByteArray) (n : Nat) : B (s.extract n s.size) = (B s).drop n := by
  rw [B_extract, size_B]
  exact List.take_of_length_le (by rw [List.length_drop]; omega)
theorem bt_of {s : ByteArray} {i : Nat} {c : UInt8} (h : (B s)[i]? = some c) : bt s (i : Int) = (c.toNat : Int) := by
  unfold bt
  have hi : i < s.size := by rw [size_B]; exact (List.getElem?_eq_some_iff.1 h).1
  rw [Int.toNat_natCast, dif_pos hi]
  have : (s[i]'hi) = c := by
    have h1 : (B s)[i]? = some (s[i]'hi) := by
      unfold B
      rw [Array.getElem?_toList]
      exact Array.getElem?_eq_getElem _
    rw [h1] at h
    exact Option.some.inj h
  rw [this]
/-- The byte that a suffix begins with. -/
theorem bt_drop {s : ByteArray} {i : Nat} {c : UInt8} {t : List UInt8} (h : (B s).drop i = c :: t) : bt s (i : Int) = (c.toNat : Int) ∧ i < s.size ∧ (B s).drop (i + 1) = t := by
  obtain ⟨h1, h2, h3⟩ := drop_cons h
  exact ⟨bt_of h2, by rw [size_B]; exact h1, h3⟩
theorem end_drop {s : ByteArray} {i : Nat} (h : (B s).drop i = []) : s.size ≤ i := by rw [size_B]; exact drop_nil h
theorem u8_eq (c : UInt8) (n : Nat) (h : n < 256) : ((c.toNat : Int) = (n : Int)) ↔ c = UInt8.ofNat n := by
  constructor
  · intro e
    have e' : c.toNat = n := by omega
    rw [← e']; exact (UInt8.ofNat_toNat).symm
  · intro e
    rw [e, UInt8.toNat_ofNat']
    have : n % 2 ^ 8 = n := Nat.mod_eq_of_lt h
    omega
theorem u8_lt (c : UInt8) : (c.toNat : Int) < 256 ∧ 0 ≤ (c.toNat : Int) := by
  have := UInt8.toNat_lt c
  omega
/-- A text cut at a byte. -/
def spl (c : UInt8) : List UInt8 → List (List UInt8)
  | [] => [[]]
  | b :: t => if b = c then [] :: spl c t else (b :: (spl c t).headD []) :: (spl c t).tail
theorem spl_ne (c : UInt8) (l : List UInt8) : spl c l ≠ [] := by
  cases l with
  | nil => simp [spl]
  | cons b t => unfold spl; split <;> simp
theorem spl_whole (c : UInt8) : ∀ p : List UInt8, c ∉ p → spl c p = [p]
  | [], _ => rfl
  | b :: t, h => by
    have hb : b ≠ c := fun e => h (by simp [e])
    rw [spl, if_neg hb, spl_whole c t (fun e => h (by simp [e]))]; rfl
theorem spl_cut (c : UInt8) (r : List UInt8) : ∀ p : List UInt8, c ∉ p → spl c (p ++ c :: r) = p :: spl c r
  | [], _ => by simp [spl]
  | b :: t, h => by
    have hb : b ≠ c := fun e => h (by simp [e])
    rw [List.cons_append, spl, if_neg hb, spl_cut c r t (fun e => h (by simp [e]))]; rfl
theorem spl_one (c : UInt8) : ∀ l p : List UInt8, spl c l = [p] → l = p ∧ c ∉ p
  | [], p, h => by simp [spl] at h; subst h; simp
  | b :: t, p, h => by
    unfold spl at h
    split at h
    · injection h with h1 h2; exact absurd h2 (spl_ne c t)
    · rename_i hb
      injection h with h1 h2
      have ht : spl c t = [(spl c t).headD []] := by
        cases hs : spl c t with
        | nil => exact absurd hs (spl_ne c t)
        | cons a r => rw [hs] at h2; simp at h2; rw [h2]; rfl
      obtain ⟨e1, e2⟩ := spl_one c t _ ht
      rw [← h1]
      refine ⟨by rw [← e1], ?_⟩
      intro e
      rcases List.mem_cons.1 e with q | q
      · exact hb q.symm
      · exact e2 q
theorem spl_more (c : UInt8) : ∀ l p q r, spl c l = p :: q :: r → ∃ m, l = p ++ c :: m ∧ c ∉ p ∧ spl c m = q :: r
  | [], p, q, r, h => by simp [spl] at h
  | b :: t, p, q, r, h => by
    unfold spl at h
    split at h
    · rename_i hb
      injection h with h1 h2
      exact ⟨t, by rw [← h1, hb]; rfl, by rw [← h1]; simp, h2⟩
    · rename_i hb
      injection h with h1 h2
      have ht : spl c t = (spl c t).headD [] :: q :: r := by
        cases hs : spl c t with
        | nil => exact absurd hs (spl_ne c t)
        | cons a r' => rw [hs] at h2; simp at h2; rw [h2]; rfl
      obtain ⟨m, e1, e2, e3⟩ := spl_more c t _ q r ht
      refine ⟨m, by rw [← h1, List.cons_append, ← e1], ?_, e3⟩
      rw [← h1]
      intro e
      rcases List.mem_cons.1 e with q | q
      · exact hb q.symm
      · exact e2 q
theorem spl3 {c : UInt8} {l p0 p1 p2 : List UInt8} (h : spl c l = [p0, p1, p2]) : l = p0 ++ c :: (p1 ++ c :: p2) ∧ c ∉ p0 ∧ c ∉ p1 ∧ c ∉ p2 := by
  obtain ⟨m, rfl, h0, h⟩ := spl_more c _ _ _ _ h
  obtain ⟨m, rfl, h1, h⟩ := spl_more c _ _ _ _ h
  obtain ⟨rfl, h2⟩ := spl_one c _ _ h
  exact ⟨rfl, h0, h1, h2⟩
theorem spl3' {c : UInt8} {p0 p1 p2 : List UInt8} (h0 : c ∉ p0) (h1 : c ∉ p1) (h2 : c ∉ p2) : spl c (p0 ++ c :: (p1 ++ c :: p2)) = [p0, p1, p2] := by
  rw [spl_cut c _ _ h0, spl_cut c _ _ h1, spl_whole c _ h2]
theorem spl4 {c : UInt8} {l p0 p1 p2 p3 : List UInt8} (h : spl c l = [p0, p1, p2, p3]) : l = p0 ++ c :: (p1 ++ c :: (p2 ++ c :: p3)) ∧ c ∉ p0 ∧ c ∉ p1 ∧ c ∉ p2 ∧ c ∉ p3 := by
  obtain ⟨m, rfl, h0, h⟩ := spl_more c _ _ _ _ h
  obtain ⟨rfl, q⟩ := spl3 h
  exact ⟨rfl, h0, q⟩
theorem spl4' {c : UInt8} {p0 p1 p2 p3 : List UInt8} (h0 : c ∉ p0) (h1 : c ∉ p1) (h2 : c ∉ p2) (h3 : c ∉ p3) : spl c (p0 ++ c :: (p1 ++ c :: (p2 ++ c :: p3))) = [p0, p1, p2, p3] := by
  rw [spl_cut c _ _ h0, spl3' h1 h2 h3]
theorem spl6 {c : UInt8} {l p0 p1 p2 p3 p4 p5 : List UInt8} (h : spl c l = [p0, p1, p2, p3, p4, p5]) : l = p0 ++ c :: (p1 ++ c :: (p2 ++ c :: (p3 ++ c :: (p4 ++ c :: p5)))) ∧ c ∉ p0 ∧ c ∉ p1 ∧ c ∉ p2 ∧ c ∉ p3 ∧ c ∉ p4 ∧ c ∉ p5 := by
  obtain ⟨m, rfl, h0, h⟩ := spl_more c _ _ _ _ h
  obtain ⟨m, rfl, h1, h⟩ := spl_more c _ _ _ _ h
  obtain ⟨rfl, q⟩ := spl4 h
  exact ⟨rfl, h0, h1, q⟩
theorem spl6' {c : UInt8} {p0 p1 p2 p3 p4 p5 : List UInt8} (h0 : c ∉ p0) (h1 : c ∉ p1) (h2 : c ∉ p2) (h3 : c ∉ p3) (h4 : c ∉ p4) (h5 : c ∉ p5) : spl c (p0 ++ c :: (p1 ++ c :: (p2 ++ c :: (p3 ++ c :: (p4 ++ c :: p5))))) = [p0, p1, p2, p3, p4, p5] := by
  rw [spl_cut c _ _ h0, spl_cut c _ _ h1, spl4' h2 h3 h4 h5]
theorem spl_hd (c : UInt8) : ∀ (p r : List UInt8), c ∉ p → (spl c (p ++ c :: r)).head? = some p := fun p r h => by rw [spl_cut c r p h]; rfl
theorem splK_cons (c b : UInt8) (h : b ≠ c) : ∀ (k : Nat) (t : List UInt8), Lib.splitK [c] 0 k (b :: t) = (b :: (Lib.splitK [c] 0 k t).headD []) :: (Lib.splitK [c] 0 k t).tail
  | 0, t => rfl
  | k + 1, t => by
    have hp : ([c] : List UInt8).isPrefixOf (b :: t) = false := by simp [List.isPrefixOf, Ne.symm h]
    have hix : Lib.index (b :: t) [c] = if Lib.index t [c] == -1 then -1 else Lib.index t [c] + 1 := by rw [Lib.index, hp]; simp
    have hge := Lib.index_ge t [c]
    unfold Lib.splitK
    rw [hix]
    by_cases hm : Lib.index t [c] = -1
    · simp [hm]
    · have e1 : (Lib.index t [c] == -1) = false := by simpa using hm
      have e2 : (Lib.index t [c] + 1 == -1) = false := by simp; omega
      obtain ⟨j, hj⟩ : ∃ j : Nat, Lib.index t [c] = j := ⟨(Lib.index t [c]).toNat, by omega⟩
      rw [e1]
      simp only [Bool.false_eq_true, if_false]
      rw [e2]
      simp only [Bool.false_eq_true, if_false, hj, List.headD_cons, List.tail_cons, List.length_singleton]
      have e3 : ((j : Int) + 1).toNat = j + 1 := by omega
      rw [e3, Int.toNat_natCast]
      rfl
theorem splK_eq (c : UInt8) : ∀ l : List UInt8, Lib.splitK [c] 0 (Lib.count l [c]) l = spl c l
  | [] => by
    have : Lib.index [] [c] = -1 := rfl
    rw [Lib.count_miss this]; rfl
  | b :: t => by
    by_cases h : b = c
    · subst h
      have hix : Lib.index (b :: t) [b] = 0 := by rw [Lib.index]; simp [List.isPrefixOf]
      rw [Lib.count_cons_eq, Nat.add_comm, Lib.splitK, hix, spl, if_pos rfl, ← splK_eq b t]
      rfl
    · rw [Lib.count_cons_ne b c t h, splK_cons c b h, splK_eq c t, spl, if_neg h]
theorem splB_eq (c : UInt8) (s : ByteArray) : Lib.splitB (⟨#[c]⟩ : ByteArray) 0 (Lib.countB s (⟨#[c]⟩ : ByteArray)) s = (spl c (B s)).map mk := by
  have h := Lib.splitB_data (⟨#[c]⟩ : ByteArray) 0 (Lib.countB s (⟨#[c]⟩ : ByteArray)) s
  have e : Lib.splitK [c] 0 (Lib.countB s (⟨#[c]⟩ : ByteArray)) s.data.toList = spl c (B s) := splK_eq c (B s)
  rw [← e]
  have h2 : ∀ l : List ByteArray, l = (l.map (·.data.toList)).map mk := fun l => by
    rw [List.map_map]; simp [Function.comp_def, mk]
  rw [h2 (Lib.splitB _ _ _ _), h]
theorem Split_ok (s : ByteArray) (c : UInt8) (hs : s.size < 4294967281) : strings_Split.f s (⟨#[c]⟩ : ByteArray) = some ((spl c (B s)).map mk) := by
  unfold strings_Split.f
  rw [if_pos hs, if_pos (show (⟨#[c]⟩ : ByteArray).size = 1 from rfl), splB_eq]
theorem spl_hdtl (c : UInt8) (l : List UInt8) : spl c l = (spl c l).headD [] :: (spl c l).tail := by
  cases h : spl c l with
  | nil => exact absurd h (spl_ne c l)
  | cons p r => rfl
theorem SplitA_loop (c : UInt8) (s : ByteArray) (hs : s.size ≤ 1000000000) : ∀ (t : List UInt8) (i fr : Nat) (acc : List ByteArray), (B s).drop i = t → i ≤ s.size → fr ≤ i → acc.length ≤ i → Ev (fun k => sprref_Split.l0 k s (c.toNat : Int) acc (fr : Int) (i : Int)) (acc ++ mk (((B s).drop fr).take (i - fr) ++ (spl c t).headD []) :: ((spl c t).tail).map mk)
  | [], i, fr, acc, h, hi, hf, ha => by
    have := end_drop h
    have e : mk (((B s).drop fr).take (i - fr) ++ (spl c []).headD []) = s.extract fr i := by
      apply B_inj
      rw [B_extract, B_mk]
      show _ ++ [] = _
      rw [List.append_nil]
    rw [e]
    refine Ev.step (fun _ => sprref_Split.l0.eq_2 ..) (Ev.pos (by omega) (Ev.pos (by omega) (Ev.pos (by omega) (Ev.pos (by omega) (Ev.pos (by omega) ?_)))))
    rw [wrap_id (x := (i : Int) + 1) (by omega) (by omega), cast_succ]
    exact Ev.step (fun _ => sprref_Split.l0.eq_2 ..) (Ev.neg (by omega) (Ev.now _))
  | b :: t, i, fr, acc, h, hi, hf, ha => by
    obtain ⟨e1, e2, e3⟩ := bt_drop h
    have u := u8_lt c
    by_cases hc : b = c
    · have ih := SplitA_loop c s hs t (i + 1) (i + 1) (acc ++ [s.extract fr i]) e3 (by omega) (by omega) (by simp; omega)
      have e : mk (((B s).drop fr).take (i - fr) ++ (spl c (b :: t)).headD []) = s.extract fr i := by
        apply B_inj
        rw [B_extract, B_mk, spl, if_pos hc]
        show _ ++ [] = _
        rw [List.append_nil]
      have e4 : (spl c (b :: t)).tail = spl c t := by rw [spl, if_pos hc]; rfl
      rw [e, e4]
      refine Ev.step (fun _ => sprref_Split.l0.eq_2 ..) (Ev.pos (by omega) (Ev.neg (by omega) (Ev.pos (by omega) (Ev.pos (by omega) (Ev.pos (by rw [e1, hc]) (Ev.pos (by omega) (Ev.pos (by omega) (Ev.pos (by omega) ?_))))))))
      rw [wrap_id (x := (i : Int) + 1) (by omega) (by omega), cast_succ, Int.toNat_natCast, Int.toNat_natCast]
      rw [Nat.sub_self, List.take_zero, List.nil_append, List.append_assoc, ← List.map_cons (f := mk), ← spl_hdtl] at ih
      exact ih
    · have ih := SplitA_loop c s hs t (i + 1) fr acc e3 (by omega) (by omega) (by omega)
      have e : ((B s).drop fr).take (i - fr) ++ (spl c (b :: t)).headD [] = ((B s).drop fr).take (i + 1 - fr) ++ (spl c t).headD [] := by
        rw [spl, if_neg hc]
        have q : ((B s).drop fr).take (i + 1 - fr) = ((B s).drop fr).take (i - fr) ++ [b] := by
          have q1 : i + 1 - fr = (i - fr) + 1 := by omega
          have q2 : ((B s).drop fr)[i - fr]? = some b := by
            rw [List.getElem?_drop]
            have q3 : fr + (i - fr) = i := by omega
            rw [q3]
            have := congrArg (fun l : List UInt8 => l[0]?) h
            simpa using this
          rw [q1, List.take_add_one, q2]; rfl
        rw [q, List.append_assoc]; rfl
      have e4 : (spl c (b :: t)).tail = (spl c t).tail := by rw [spl, if_neg hc]; rfl
      rw [e, e4]
      refine Ev.step (fun _ => sprref_Split.l0.eq_2 ..) (Ev.pos (by omega) (Ev.neg (by omega) (Ev.pos (by omega) (Ev.pos (by omega) (Ev.neg (fun q => hc ?_) ?_)))))
      · rw [e1] at q
        have := (u8_eq b c.toNat (by omega)).1 q
        rw [this, UInt8.ofNat_toNat]
      · rw [wrap_id (x := (i : Int) + 1) (by omega) (by omega), cast_succ]
        exact ih
theorem SplitA_ok (c : UInt8) (s : ByteArray) (hs : s.size ≤ 1000000000) : Ev (fun k => sprref_Split.f k s (c.toNat : Int)) ((spl c (B s)).map mk) := by
  have h := SplitA_loop c s hs (B s) 0 0 [] rfl (by omega) (by omega) (by simp)
  rw [Nat.sub_self, List.take_zero, List.nil_append, List.nil_append, ← List.map_cons (f := mk), ← spl_hdtl] at h
  exact h
/-- A text cut at its points. -/
def prts (l : List UInt8) : List (List UInt8) := if 1 < (spl 46 l).length ∧ (spl 46 l).getLast? = some [] then (spl 46 l).dropLast else spl 46 l
theorem prts_ne (l : List UInt8) : prts l ≠ [] := by
  unfold prts
  split
  · rename_i h
    intro q
    have := congrArg List.length q
    rw [List.length_dropLast, List.length_nil] at this
    omega
  · exact spl_ne 46 l
theorem parts_if {k : Nat} {p : List (List UInt8)} (hne : p ≠ []) (hl : p.length ≤ 1000000001) :
    (if (wrap64 (((p.map mk).length : Int) - 1)) > 0 then (if 0 ≤ (wrap64 (((p.map mk).length : Int) - 1)) then (if (wrap64 (((p.map mk).length : Int) - 1)) < ((p.map mk).length : Int) then (if (rdOf ByteArray.empty (p.map mk) (wrap64 (((p.map mk).length : Int) - 1))).toList = ([] : List UInt8) then (if (wrap64 (((p.map mk).length : Int) - 1)) ≤ ((p.map mk).length : Int) then (some ((p.map mk).take ((wrap64 (((p.map mk).length : Int) - 1)) : Int).toNat)) else (none)) else (some (p.map mk))) else (none)) else (none)) else (some (p.map mk)))
    = some ((if 1 < p.length ∧ p.getLast? = some [] then p.dropLast else p).map mk) := by
  have hpos : 0 < p.length := List.length_pos_iff.2 hne
  rw [List.length_map, wrap_id (by omega) (by omega)]
  by_cases h1 : 1 < p.length
  · rw [if_pos (by omega), if_pos (by omega), if_pos (by omega)]
    have e : (p.length : Int) - 1 = ((p.length - 1 : Nat) : Int) := by omega
    have hg : (p.map mk)[p.length - 1]? = some (mk (p.getLast hne)) := by
      rw [List.getElem?_map, ← List.getLast?_eq_getElem?, List.getLast?_eq_some_getLast hne]; rfl
    rw [e, rdOf_of hg, toList_B, B_mk, if_pos (show ((p.length - 1 : Nat) : Int) ≤ (p.length : Int) by omega), Int.toNat_natCast]
    by_cases h2 : p.getLast hne = []
    · rw [if_pos h2, if_pos ⟨h1, by rw [List.getLast?_eq_some_getLast hne, h2]⟩, List.dropLast_eq_take, List.map_take]
    · rw [if_neg h2, if_neg (fun q => h2 (by have z := q.2; rw [List.getLast?_eq_some_getLast hne] at z; exact Option.some.inj z))]
  · rw [if_neg (by omega), if_neg (fun q => h1 q.1)]
theorem spl_len (c : UInt8) : ∀ l : List UInt8, (spl c l).length ≤ l.length + 1
  | [] => Nat.le_refl _
  | b :: t => by
    have ih := spl_len c t
    unfold spl
    split
    · rw [List.length_cons, List.length_cons]; omega
    · rw [List.length_cons, List.length_cons, List.length_tail]; omega
theorem parts_prog (s : ByteArray) (hs : s.size ≤ 1000000000) : ip_parts.f s = some ((prts (B s)).map mk) := by
  unfold ip_parts.f
  rw [Split_ok s 46 (by omega), Option.bind_some]
  have hz := size_B s
  exact parts_if (k := 0) (spl_ne 46 (B s)) (Nat.le_trans (spl_len 46 (B s)) (by omega))
theorem parts_ref (s : ByteArray) (hs : s.size ≤ 1000000000) : Ev (fun k => sprref7_parts.f k s) ((prts (B s)).map mk) := by
  have hz := size_B s
  refine Ev.bind (SplitA_ok 46 s hs) (Ev.konst ?_)
  have z := parts_if (k := 0) (spl_ne 46 (B s)) (Nat.le_trans (spl_len 46 (B s)) (by omega))
  have hp : 0 < (spl 46 (B s)).length := List.length_pos_iff.2 (spl_ne _ _)
  by_cases h1 : 1 < (spl 46 (B s)).length
  · rw [List.length_map] at z ⊢
    have hl := spl_len 46 (B s)
    rw [if_pos (show wrap64 (((spl 46 (B s)).length : Int) - 1) > 0 by rw [wrap_id (by omega) (by omega)]; omega)] at z
    rw [if_pos (show ((spl 46 (B s)).length : Int) > 1 by omega)]
    exact z
  · rw [if_neg (by rw [List.length_map]; omega)]
    unfold prts
    rw [if_neg (fun q => h1 q.1)]
/-- A digit's value; -1: it is none. -/
def dv (c : UInt8) : Int := if 48 ≤ c.toNat ∧ c.toNat ≤ 57 then (c.toNat : Int) - 48 else if 97 ≤ c.toNat ∧ c.toNat ≤ 102 then (c.toNat : Int) - 87 else if 65 ≤ c.toNat ∧ c.toNat ≤ 70 then (c.toNat : Int) - 55 else -1
def isD (b : Int) (c : UInt8) : Bool := decide (0 ≤ dv c) && decide (dv c < b)
theorem u8_all {p : UInt8 → Prop} (h : ∀ n : Fin 256, p (UInt8.ofNat n.val)) (c : UInt8) : p c := by
  have := h ⟨c.toNat, UInt8.toNat_lt c⟩
  rwa [UInt8.ofNat_toNat] at this
set_option maxRecDepth 100000 in
theorem digit_prog (c : UInt8) : ip_digit.f (c.toNat : Int) = some (dv c) := u8_all (p := fun c => ip_digit.f (c.toNat : Int) = some (dv c)) (by decide +kernel) c
theorem dv_rng (c : UInt8) : -1 ≤ dv c ∧ dv c < 16 := by
  unfold dv
  split
  · omega
  · split
    · omega
    · split <;> omega
/-- A number's value, saturating. -/
def numL (cap b : Int) : List UInt8 → Int → Int
  | [], n => n
  | c :: t, n => numL cap b t (mn (n * b + dv c) cap)
def valL (b : Int) : List UInt8 → Int → Int
  | [], n => n
  | c :: t, n => valL b t (n * b + dv c)
def nm (cap b : Int) (l : List UInt8) : Int × Bool := if l.all (isD b) = true then (numL cap b l 0, true) else (0, false)
theorem isD_iff {b : Int} {c : UInt8} : isD b c = true ↔ 0 ≤ dv c ∧ dv c < b := by simp [isD]
theorem numL_val (cap b : Int) (hb : b = 8 ∨ b = 10 ∨ b = 16) (hc : 0 ≤ cap) : ∀ (l : List UInt8) (n : Int), l.all (isD b) = true → 0 ≤ n → numL cap b l (mn n cap) = mn (valL b l n) cap
  | [], n, _, _ => rfl
  | c :: t, n, h, h0 => by
    rw [List.all_cons, Bool.and_eq_true, isD_iff] at h
    obtain ⟨⟨h1, h2⟩, h3⟩ := h
    unfold numL valL
    have e : mn ((mn n cap) * b + dv c) cap = mn (n * b + dv c) cap := by
      unfold mn
      rcases hb with rfl | rfl | rfl <;> (repeat' split) <;> omega
    have e2 : 0 ≤ n * b + dv c := by rcases hb with rfl | rfl | rfl <;> omega
    rw [e]
    exact numL_val cap b hb hc t _ h3 e2
theorem valL_ge (b : Int) (hb : b = 8 ∨ b = 10 ∨ b = 16) : ∀ (l : List UInt8) (n : Int), l.all (isD b) = true → 0 ≤ n → 0 ≤ valL b l n
  | [], n, _, h => h
  | c :: t, n, h, h0 => by
    rw [List.all_cons, Bool.and_eq_true, isD_iff] at h
    exact valL_ge b hb t _ h.2 (by rcases hb with rfl | rfl | rfl <;> omega)
/-- What is told of a part's value: it may be cut at either ceiling. -/
theorem nm_caps {b : Int} (hb : b = 8 ∨ b = 10 ∨ b = 16) (l : List UInt8) : ∃ v : Int, 0 ≤ v ∧ ∀ cap, 0 ≤ cap → nm cap b l = if l.all (isD b) = true then (mn v cap, true) else (0, false) := by
  by_cases h : l.all (isD b) = true
  · refine ⟨valL b l 0, valL_ge b hb l 0 h (by omega), fun cap hc => ?_⟩
    have z := numL_val cap b hb hc l 0 h (by omega)
    rw [show mn 0 cap = 0 by unfold mn; split <;> omega] at z
    unfold nm
    rw [if_pos h, if_pos h, z]
  · exact ⟨0, by omega, fun cap hc => by unfold nm; rw [if_neg h, if_neg h]⟩
theorem number_loop (b : Int) (hb : b = 8 ∨ b = 10 ∨ b = 16) (s : ByteArray) (hs : s.size ≤ 1000000000) : ∀ (t : List UInt8) (i : Nat) (n : Int), (B s).drop i = t → i ≤ s.size → 0 ≤ n → n ≤ 8589934592 → Ev (fun k => ip_number.l0 k s b n (s.size : Int) (i : Int)) (if t.all (isD b) = true then (numL 8589934592 b t n, true) else (0, false))
  | [], i, n, h, hi, h0, h1 => by
    have := end_drop h
    exact Ev.step (fun _ => ip_number.l0.eq_2 ..) (Ev.neg (by omega) (Ev.now _))
  | c :: t, i, n, h, hi, h0, h1 => by
    obtain ⟨e1, e2, e3⟩ := bt_drop h
    have hd := dv_rng c
    refine Ev.step (fun _ => ip_number.l0.eq_2 ..) (Ev.pos (by omega) (Ev.pos (by omega) (Ev.pos (by omega) (Ev.bnd (by rw [e1]; exact digit_prog c) ?_))))
    by_cases hD : isD b c = true
    · have hD' := isD_iff.1 hD
      have ew : wrap64 (wrap64 (n * b) + dv c) = n * b + dv c := by
        rcases hb with rfl | rfl | rfl <;> (rw [wrap_id (x := n * _) (by omega) (by omega), wrap_id (by omega) (by omega)])
      have hr : 0 ≤ mn (n * b + dv c) 8589934592 ∧ mn (n * b + dv c) 8589934592 ≤ 8589934592 := by
        unfold mn
        rcases hb with rfl | rfl | rfl <;> (split <;> omega)
      have ih := number_loop b hb s hs t (i + 1) (mn (n * b + dv c) 8589934592) e3 (by omega) hr.1 hr.2
      rw [List.all_cons, hD, Bool.true_and]
      refine Ev.neg (by omega) (Ev.neg (by omega) ?_)
      rw [ew, wrap_id (x := (i : Int) + 1) (by omega) (by omega), cast_succ]
      exact ih
    · rw [List.all_cons, show isD b c = false by simpa using hD, Bool.false_and, if_neg (by simp)]
      by_cases h2 : dv c < 0
      · exact Ev.pos h2 (Ev.now _)
      · exact Ev.neg h2 (Ev.pos (by rw [isD_iff] at hD; omega) (Ev.now _))
theorem number_prog (b : Int) (hb : b = 8 ∨ b = 10 ∨ b = 16) (s : ByteArray) (hs : s.size ≤ 1000000000) : Ev (fun k => ip_number.f k s b) (nm 8589934592 b (B s)) := number_loop b hb s hs (B s) 0 0 rfl (by omega) (by omega) (by omega)
/-- Does a part begin with 0x? -/
def hexP : List UInt8 → Bool
  | a :: c :: _ => a == 48 && (c == 120 || c == 88)
  | _ => false
/-- A part's number. -/
def partV (cap : Int) (l : List UInt8) : Int × Bool :=
  if l = [] then (0, false) else if hexP l = true then nm cap 16 (l.drop 2) else if l.head? = some 48 ∧ 1 < l.length then nm cap 8 (l.drop 1) else nm cap 10 l
theorem toList_nil {s : ByteArray} : s.toList = ([] : List UInt8) ↔ B s = [] := by rw [toList_B]
theorem prefix2 (s : ByteArray) (x : UInt8) (y : UInt8) : strings_HasPrefix.f s (⟨#[x, y]⟩ : ByteArray) = some (match B s with | a :: c :: _ => a == x && c == y | _ => false) := by
  unfold strings_HasPrefix.f stringslite_HasPrefix.f
  have h2 : (⟨#[x, y]⟩ : ByteArray).size = 2 := rfl
  rw [h2]
  have hz := size_B s
  by_cases h : (s.size : Int) ≥ ((2 : Nat) : Int)
  · rw [if_pos h, if_pos (by omega), if_pos (by omega)]
    rw [Option.bind_some, toList_B, toList_B, Int.toNat_natCast, B_to]
    congr 1
    show (List.take 2 (B s) == [x, y]) = _
    match hB : B s with
    | [] => rw [hB, List.length_nil] at hz; omega
    | [a] => rw [hB, List.length_singleton] at hz; omega
    | a :: c :: r => simp
  · rw [if_neg h, Option.bind_some]
    congr 1
    match hB : B s with
    | [] => rfl
    | [a] => rfl
    | a :: c :: r => rw [hB, List.length_cons, List.length_cons] at hz; omega
theorem pair_eta {α β : Type} (p : α × β) : (p.1, p.2) = p := rfl
theorem part_prog (s : ByteArray) (hs : s.size ≤ 1000000000) : Ev (fun k => ip_part.f k s) (partV 8589934592 (B s)) := by
  unfold partV
  by_cases h0 : B s = []
  · rw [if_pos h0]
    exact Ev.pos (toList_nil.2 h0) (Ev.now _)
  · rw [if_neg h0]
    have hz := size_B s
    refine Ev.neg (fun q => h0 (toList_nil.1 q)) (Ev.bnd (prefix2 s 48 120) ?_)
    have H2 : ∀ r : Int × Bool, hexP (B s) = true → r = nm 8589934592 16 ((B s).drop 2) → Ev (fun k => ip_part.j0 k s true) r := fun r hh hr => by
      have hl : 2 ≤ s.size := by
        match hB : B s with
        | [] => rw [hB] at hh; cases hh
        | [a] => rw [hB] at hh; cases hh
        | a :: c :: t => rw [hB, List.length_cons, List.length_cons] at hz; omega
      refine Ev.step (fun _ => ip_part.j0.eq_2 ..) (Ev.pos rfl (Ev.pos (by omega) ?_))
      refine Ev.bind (number_prog 16 (by omega) (s.extract 2 s.size) ?_) ?_
      · rw [size_B, B_from, List.length_drop]; omega
      · rw [B_from, pair_eta, ← hr]; exact Ev.now _
    have H0 : hexP (B s) = false → Ev (fun k => ip_part.j0 k s false) (if (B s).head? = some 48 ∧ 1 < (B s).length then nm 8589934592 8 ((B s).drop 1) else nm 8589934592 10 (B s)) := fun hh => by
      match hB : B s with
      | [] => exact absurd hB h0
      | a :: t =>
        have hb0 : bt s 0 = (a.toNat : Int) := bt_of (s := s) (i := 0) (by rw [hB]; rfl)
        rw [hB, List.length_cons] at hz
        have j1 : ∀ b : Bool, b = false → Ev (fun k => ip_part.j1 k s b) (nm 8589934592 10 (B s)) := fun b hb => by
          subst hb
          refine Ev.step (fun _ => ip_part.j1.eq_2 ..) (Ev.neg (by decide) (Ev.bind (number_prog 10 (by omega) s hs) ?_))
          exact Ev.now _
        refine Ev.step (fun _ => ip_part.j0.eq_2 ..) (Ev.neg (by decide) (Ev.pos (by omega) ?_))
        by_cases ha : a = 48
        · subst ha
          refine Ev.pos (by rw [hb0]; rfl) ?_
          by_cases hl : 1 < (48 :: t).length
          · rw [if_pos ⟨rfl, hl⟩]
            rw [List.length_cons] at hl
            refine Ev.congr (fun k => by rw [show decide ((s.size : Int) > 1) = true from decide_eq_true (by omega)]) ?_
            refine Ev.step (fun _ => ip_part.j1.eq_2 ..) (Ev.pos rfl (Ev.pos (by omega) ?_))
            refine Ev.bind (number_prog 8 (by omega) (s.extract 1 s.size) ?_) ?_
            · rw [size_B, B_from, List.length_drop, ← size_B]; omega
            · rw [B_from, hB, pair_eta]; exact Ev.now _
          · rw [if_neg (fun q => hl q.2), ← hB]
            rw [List.length_cons] at hl
            exact j1 _ (decide_eq_false (by omega))
        · rw [if_neg (fun q => ha (by simpa using q.1)), ← hB]
          exact Ev.neg (fun q => ha ((u8_eq a 48 (by omega)).1 (by rw [← hb0]; exact q))) (j1 _ rfl)
    match hB : B s with
    | [] => exact absurd hB h0
    | [a] =>
      refine Ev.neg (fun q => by cases q) (Ev.bnd (prefix2 s 48 88) ?_)
      rw [hB]
      have z := H0 (by rw [hB]; rfl)
      rw [hB] at z
      exact z
    | a :: c :: t =>
      by_cases hx : hexP (a :: c :: t) = true
      · rw [if_pos hx]
        have hh : hexP (B s) = true := by rw [hB]; exact hx
        by_cases hc : (a == 48 && c == 120) = true
        · refine Ev.pos hc (H2 _ hh (by rw [hB]))
        · refine Ev.neg hc (Ev.bnd (prefix2 s 48 88) ?_)
          rw [hB]
          have e : (a == 48 && c == 88) = true := by
            unfold hexP at hx
            simp only [Bool.and_eq_true, Bool.or_eq_true] at hx hc ⊢
            rcases hx with ⟨h1, h2 | h2⟩
            · exact absurd ⟨h1, h2⟩ hc
            · exact ⟨h1, h2⟩
          show Ev (fun n => ip_part.j0 n s (a == 48 && c == 88)) _
          rw [e]
          exact H2 _ hh (by rw [hB])
      · rw [if_neg hx]
        have hh : hexP (B s) = false := by rw [hB]; simpa using hx
        have z := H0 hh
        rw [hB] at z
        have e1 : ¬ (a == 48 && c == 120) = true := fun q => hx (by unfold hexP; simp only [Bool.and_eq_true, Bool.or_eq_true] at q ⊢; exact ⟨q.1, Or.inl q.2⟩)
        have e2 : (a == 48 && c == 88) = false := by
          cases hq : (a == 48 && c == 88) with
          | false => rfl
          | true => exact absurd (by unfold hexP; simp only [Bool.and_eq_true, Bool.or_eq_true] at hq ⊢; exact ⟨hq.1, Or.inr hq.2⟩) hx
        refine Ev.neg e1 (Ev.bnd (prefix2 s 48 88) ?_)
        rw [hB]
        show Ev (fun n => ip_part.j0 n s (a == 48 && c == 88)) _
        rw [e2]
        exact z
set_option maxRecDepth 100000 in
theorem digit_ref (c : UInt8) (k : Nat) : sprref1_Digit.f (k + 3) (c.toNat : Int) = some (dv c) := by
  have h := u8_all (p := fun c => sprref1_Digit.f 3 (c.toNat : Int) = some (dv c)) (by decide +kernel) c
  exact at_rounds (sprref1_Digit.mono _) (Nat.le_add_left 3 k) h
theorem digit_ev (c : UInt8) {x : Int} (hx : x = (c.toNat : Int)) : Ev (fun k => sprref1_Digit.f k x) (dv c) := by subst hx; exact Ev.at 3 (fun k => digit_ref c k)
theorem digits_loop (b : Int) (s : ByteArray) (hs : s.size ≤ 1000000000) : ∀ (t : List UInt8) (i : Nat), (B s).drop i = t → i ≤ s.size → Ev (fun k => sprref7_digits.l0 k s b (i : Int)) (t.all (isD b))
  | [], i, h, hi => by
    have := end_drop h
    exact Ev.step (fun _ => sprref7_digits.l0.eq_2 ..) (Ev.neg (by omega) (Ev.now _))
  | c :: t, i, h, hi => by
    obtain ⟨e1, e2, e3⟩ := bt_drop h
    refine Ev.step (fun _ => sprref7_digits.l0.eq_2 ..) (Ev.pos (by omega) (Ev.pos (by omega) (Ev.bind (digit_ev c e1) ?_)))
    rw [List.all_cons]
    by_cases hD : isD b c = true
    · have hD' := isD_iff.1 hD
      have ih := digits_loop b s hs t (i + 1) e3 (by omega)
      rw [hD, Bool.true_and]
      refine Ev.neg (by omega) (Ev.neg (by omega) ?_)
      rw [wrap_id (x := (i : Int) + 1) (by omega) (by omega), cast_succ]
      exact ih
    · rw [show isD b c = false by simpa using hD, Bool.false_and]
      by_cases h2 : dv c < 0
      · exact Ev.pos h2 (Ev.now _)
      · exact Ev.neg h2 (Ev.pos (by rw [isD_iff] at hD; omega) (Ev.now _))
theorem digits_ref (b : Int) (s : ByteArray) (hs : s.size ≤ 1000000000) : Ev (fun k => sprref7_digits.f k s b) ((B s).all (isD b)) := digits_loop b s hs (B s) 0 rfl (by omega)
theorem rnum_loop (b : Int) (hb : b = 8 ∨ b = 10 ∨ b = 16) (s : ByteArray) (hs : s.size ≤ 1000000000) : ∀ (t : List UInt8) (i : Nat) (n : Int), (B s).drop i = t → i ≤ s.size → t.all (isD b) = true → 0 ≤ n → n ≤ 1099511627776 → Ev (fun k => sprref7_number.l0 k s b n (i : Int)) (numL 1099511627776 b t n, true)
  | [], i, n, h, hi, ha, h0, h1 => by
    have := end_drop h
    exact Ev.step (fun _ => sprref7_number.l0.eq_2 ..) (Ev.neg (by omega) (Ev.now _))
  | c :: t, i, n, h, hi, ha, h0, h1 => by
    obtain ⟨e1, e2, e3⟩ := bt_drop h
    rw [List.all_cons, Bool.and_eq_true] at ha
    have hD' := isD_iff.1 ha.1
    have ew : wrap64 (wrap64 (n * b) + dv c) = n * b + dv c := by
      rcases hb with rfl | rfl | rfl <;> (rw [wrap_id (x := n * _) (by omega) (by omega), wrap_id (by omega) (by omega)])
    have hr : 0 ≤ mn (n * b + dv c) 1099511627776 ∧ mn (n * b + dv c) 1099511627776 ≤ 1099511627776 := by
      unfold mn
      rcases hb with rfl | rfl | rfl <;> (split <;> omega)
    have ih := rnum_loop b hb s hs t (i + 1) (mn (n * b + dv c) 1099511627776) e3 (by omega) ha.2 hr.1 hr.2
    refine Ev.step (fun _ => sprref7_number.l0.eq_2 ..) (Ev.pos (by omega) (Ev.pos (by omega) (Ev.bind (digit_ev c e1) ?_)))
    rw [ew, wrap_id (x := (i : Int) + 1) (by omega) (by omega), cast_succ]
    exact ih
theorem rnum_j0 (b : Int) (hb : b = 8 ∨ b = 10 ∨ b = 16) (s : ByteArray) (hs : s.size ≤ 1000000000) : Ev (fun k => sprref7_number.j0 k s b) (nm 1099511627776 b (B s)) := by
  refine Ev.step (fun _ => sprref7_number.j0.eq_2 ..) (Ev.bind (digits_ref b s hs) ?_)
  unfold nm
  by_cases h : (B s).all (isD b) = true
  · rw [if_pos h]
    exact Ev.pos h (rnum_loop b hb s hs (B s) 0 0 rfl (by omega) h (by omega) (by omega))
  · rw [if_neg h]
    exact Ev.neg h (Ev.now _)
theorem hex_ref (s : ByteArray) : sprref7_hex.f s = some (hexP (B s)) := by
  unfold sprref7_hex.f
  have hz := size_B s
  match hB : B s with
  | [] => rw [hB, List.length_nil] at hz; rw [if_neg (by omega)]; rfl
  | [a] => rw [hB, List.length_singleton] at hz; rw [if_neg (by omega)]; rfl
  | a :: c :: t =>
    rw [hB, List.length_cons, List.length_cons] at hz
    have h0 : bt s 0 = (a.toNat : Int) := bt_of (s := s) (i := 0) (by rw [hB]; rfl)
    have h1 : bt s 1 = (c.toNat : Int) := bt_of (s := s) (i := 1) (by rw [hB]; rfl)
    rw [if_pos (by omega), if_pos (by omega), h0, h1]
    show _ = some (a == 48 && (c == 120 || c == 88))
    have e88 : ((c.toNat : Int) == 88) = (c == 88) := by
      by_cases q : c = 88
      · subst q; rfl
      · rw [beq_eq_false_iff_ne.2 q, beq_eq_false_iff_ne.2 (show (c.toNat : Int) ≠ 88 from fun z => q ((u8_eq c 88 (by omega)).1 z))]
    by_cases ha : a = 48
    · subst ha
      rw [if_pos (by rfl), if_pos (by omega)]
      by_cases hc : c = 120
      · subst hc; rfl
      · rw [if_neg (show ¬ (c.toNat : Int) = 120 from fun z => hc ((u8_eq c 120 (by omega)).1 z)), e88, beq_eq_false_iff_ne.2 hc]
        simp
    · rw [if_neg (show ¬ (a.toNat : Int) = 48 from fun z => ha ((u8_eq a 48 (by omega)).1 z)), beq_eq_false_iff_ne.2 ha]
      rfl
theorem number_ref (s : ByteArray) (hs : s.size ≤ 1000000000) : Ev (fun k => sprref7_number.f k s) (partV 1099511627776 (B s)) := by
  unfold partV
  have hz := size_B s
  by_cases h0 : B s = []
  · rw [if_pos h0]
    exact Ev.pos (toList_nil.2 h0) (Ev.now _)
  · rw [if_neg h0]
    refine Ev.neg (fun q => h0 (toList_nil.1 q)) (Ev.bnd (hex_ref s) ?_)
    by_cases hh : hexP (B s) = true
    · rw [if_pos hh]
      have hl : 2 ≤ s.size := by
        match hB : B s with
        | [] => rw [hB] at hh; cases hh
        | [a] => rw [hB] at hh; cases hh
        | a :: c :: t => rw [hB, List.length_cons, List.length_cons] at hz; omega
      refine Ev.pos hh (Ev.pos (by omega) ?_)
      have z := rnum_j0 16 (by omega) (s.extract 2 s.size) (by rw [size_B, B_from, List.length_drop, ← size_B]; omega)
      rw [B_from] at z
      exact z
    · rw [if_neg hh]
      refine Ev.neg hh ?_
      match hB : B s with
      | [] => exact absurd hB h0
      | a :: t =>
        have hb0 : bt s 0 = (a.toNat : Int) := bt_of (s := s) (i := 0) (by rw [hB]; rfl)
        rw [hB, List.length_cons] at hz
        have z10 := rnum_j0 10 (by omega) s hs
        rw [hB] at z10
        by_cases hl : 1 < (a :: t).length
        · have hl' := hl
          rw [List.length_cons] at hl'
          refine Ev.pos (by omega) (Ev.pos (by omega) ?_)
          by_cases ha : a = 48
          · subst ha
            rw [if_pos ⟨rfl, hl⟩]
            refine Ev.pos (by rw [hb0]; rfl) (Ev.pos (by omega) ?_)
            have z := rnum_j0 8 (by omega) (s.extract 1 s.size) (by rw [size_B, B_from, List.length_drop, ← size_B]; omega)
            rw [B_from, hB] at z
            exact z
          · rw [if_neg (fun q => ha (by simpa using q.1))]
            exact Ev.neg (fun q => ha ((u8_eq a 48 (by omega)).1 (by rw [← hb0]; exact q))) z10
        · rw [if_neg (fun q => hl q.2)]
          rw [List.length_cons] at hl
          exact Ev.neg (by omega) z10
theorem spl_mem (c : UInt8) : ∀ (l x : List UInt8), x ∈ spl c l → x.length ≤ l.length
  | [], x, h => by
    have : x = [] := by simpa [spl] using h
    subst this; exact Nat.le_refl _
  | b :: t, x, h => by
    have ih := spl_mem c t
    unfold spl at h
    split at h
    · rcases List.mem_cons.1 h with rfl | h
      · exact Nat.zero_le _
      · exact Nat.le_trans (ih x h) (by rw [List.length_cons]; omega)
    · have hd := spl_hdtl c t
      rcases List.mem_cons.1 h with rfl | h
      · have := ih ((spl c t).headD []) (by rw [hd]; exact List.mem_cons_self)
        rw [List.length_cons, List.length_cons]; omega
      · have := ih x (by rw [hd]; exact List.mem_cons_of_mem _ h)
        rw [List.length_cons]; omega
theorem prts_mem {l x : List UInt8} (h : x ∈ prts l) : x.length ≤ l.length := by
  unfold prts at h
  split at h
  · rw [List.dropLast_eq_take] at h
    exact spl_mem 46 l x (List.mem_of_mem_take h)
  · exact spl_mem 46 l x h
theorem prts_len (l : List UInt8) : (prts l).length ≤ l.length + 1 := by
  have := spl_len 46 l
  unfold prts
  split
  · rw [List.length_dropLast]; omega
  · exact this
theorem last_rd {p : List (List UInt8)} (hne : p ≠ []) (hl : p.length ≤ 1000000001) : rdOf ByteArray.empty (p.map mk) (wrap64 (((p.map mk).length : Int) - 1)) = mk (p.getLast hne) := by
  have hpos : 0 < p.length := List.length_pos_iff.2 hne
  rw [List.length_map, wrap_id (by omega) (by omega)]
  have e : (p.length : Int) - 1 = ((p.length - 1 : Nat) : Int) := by omega
  have hg : (p.map mk)[p.length - 1]? = some (mk (p.getLast hne)) := by
    rw [List.getElem?_map, ← List.getLast?_eq_getElem?, List.getLast?_eq_some_getLast hne]; rfl
  rw [e, rdOf_of hg]
def endX (x : List UInt8) : Bool := !x.isEmpty && (x.all (isD 10) || (hexP x && (x.drop 2).all (isD 16)))
def endsV (l : List UInt8) : Bool := endX ((prts l).getLast (prts_ne l))
theorem oct_dec {l : List UInt8} (h : l.all (isD 8) = true) : l.all (isD 10) = true := by
  rw [List.all_eq_true] at h ⊢
  intro x hx
  have := isD_iff.1 (h x hx)
  exact isD_iff.2 ⟨this.1, by omega⟩
theorem nm_ok (cap b : Int) (l : List UInt8) : (nm cap b l).2 = l.all (isD b) := by
  unfold nm
  split
  · rename_i h; exact h.symm
  · rename_i h; exact (by simpa using h : l.all (isD b) = false).symm
theorem ends_prog (s : ByteArray) (hs : s.size ≤ 1000000000) : Ev (fun k => ip_Ends.f k s) (endsV (B s)) := by
  have hz := size_B s
  have hl := prts_len (B s)
  have hp : 0 < (prts (B s)).length := List.length_pos_iff.2 (prts_ne _)
  refine Ev.bnd (parts_prog s hs) ?_
  rw [last_rd (prts_ne (B s)) (by omega), List.length_map, wrap_id (by omega) (by omega)]
  unfold endsV
  have hm := prts_mem (List.getLast_mem (prts_ne (B s)))
  generalize (prts (B s)).getLast (prts_ne (B s)) = x at *
  have hx : (mk x).size ≤ 1000000000 := by rw [size_B, B_mk]; omega
  refine Ev.pos (by omega) (Ev.pos (by omega) ?_)
  unfold endX
  by_cases h0 : x = []
  · subst h0
    exact Ev.pos (toList_nil.2 rfl) (Ev.now _)
  · have he : x.isEmpty = false := by cases x with | nil => exact absurd rfl h0 | cons a t => rfl
    rw [he]
    refine Ev.neg (fun q => h0 (toList_nil.1 q)) (Ev.bind (number_prog 10 (by omega) (mk x) hx) ?_)
    rw [B_mk, nm_ok]
    by_cases h10 : x.all (isD 10) = true
    · rw [h10]
      exact Ev.pos rfl (Ev.now _)
    · have h10' : x.all (isD 10) = false := by simpa using h10
      rw [h10']
      refine Ev.neg (by decide) (Ev.bind (part_prog (mk x) hx) ?_)
      rw [B_mk]
      refine Ev.tell ?_
      unfold partV
      rw [if_neg h0]
      by_cases hh : hexP x = true
      · rw [if_pos hh, nm_ok, hh]; rfl
      · rw [if_neg hh, show hexP x = false by simpa using hh]
        split
        · rename_i h8
          rw [nm_ok]
          cases hq : (x.drop 1).all (isD 8) with
          | false => rfl
          | true =>
            exfalso
            apply h10
            cases x with
            | nil => exact absurd rfl h0
            | cons a t =>
              have ha : a = 48 := by simpa using h8.1
              subst ha
              rw [List.all_cons, oct_dec (show t.all (isD 8) = true from hq)]
              rfl
        · rw [nm_ok, h10']; rfl
theorem ends_ref (s : ByteArray) (hs : s.size ≤ 1000000000) : Ev (fun k => sprref7_Ends.f k s) (endsV (B s)) := by
  have hz := size_B s
  have hl := prts_len (B s)
  have hp : 0 < (prts (B s)).length := List.length_pos_iff.2 (prts_ne _)
  refine Ev.bind (parts_ref s hs) ?_
  rw [last_rd (prts_ne (B s)) (by omega), List.length_map, wrap_id (by omega) (by omega)]
  unfold endsV
  have hm := prts_mem (List.getLast_mem (prts_ne (B s)))
  generalize (prts (B s)).getLast (prts_ne (B s)) = x at *
  have hx : (mk x).size ≤ 1000000000 := by rw [size_B, B_mk]; omega
  have hj : ∀ b : Bool, (b = true → x = []) → Ev (fun k => sprref7_Ends.j0 k (mk x) b) (endX x) := fun b hb => by
    refine Ev.step (fun _ => sprref7_Ends.j0.eq_2 ..) ?_
    cases b with
    | true =>
      rw [hb rfl]
      exact Ev.pos rfl (Ev.now _)
    | false =>
      refine Ev.neg (by decide) ?_
      unfold endX
      have hh : ∀ c : Bool, Ev (fun k => if hexP x = true then (if 2 ≤ ((mk x).size : Int) then ((sprref7_digits.f k ((mk x).extract 2 (mk x).size) 16).bind fun t297 => (some t297)) else (none)) else (some false)) (hexP x && (x.drop 2).all (isD 16)) := fun _ => by
        by_cases h : hexP x = true
        · have h2 : 2 ≤ x.length := by
            match x, h with
            | a :: c :: t, _ => rw [List.length_cons, List.length_cons]; omega
          rw [h, Bool.true_and]
          have hz2 : (mk x).size = x.length := by rw [size_B, B_mk]
          refine Ev.pos rfl (Ev.pos (by omega) ?_)
          have z := digits_ref 16 ((mk x).extract 2 (mk x).size) (by rw [size_B, B_from, B_mk, List.length_drop]; omega)
          rw [B_from, B_mk] at z
          exact Ev.bind z (Ev.now _)
        · rw [show hexP x = false by simpa using h, Bool.false_and]
          exact Ev.neg (by decide) (Ev.now _)
      by_cases h0 : x = []
      · subst h0
        refine Ev.pos (toList_nil.2 rfl) (Ev.bnd (hex_ref _) (Ev.neg (by decide) (Ev.now _)))
      · have he : x.isEmpty = false := by cases x with | nil => exact absurd rfl h0 | cons a t => rfl
        rw [he, Bool.not_false, Bool.true_and]
        refine Ev.neg (fun q => h0 (toList_nil.1 q)) (Ev.bind (digits_ref 10 (mk x) hx) ?_)
        rw [B_mk]
        by_cases h10 : x.all (isD 10) = true
        · rw [h10]
          exact Ev.pos rfl (Ev.now _)
        · rw [show x.all (isD 10) = false by simpa using h10, Bool.false_or]
          refine Ev.neg (by decide) (Ev.bnd (hex_ref _) ?_)
          rw [B_mk]
          exact hh true
  refine Ev.pos (by omega) (Ev.pos (by omega) (Ev.ite (fun _ => hj _ (fun q => (toList_nil (s := mk x)).1 (by simpa using q))) (fun _ => hj _ (fun q => by cases q))))
/-- The values of all parts. -/
def vals (cap : Int) : List (List UInt8) → Option (List Int)
  | [] => some []
  | x :: r => if (partV cap x).2 = true then (vals cap r).map ((partV cap x).1 :: ·) else none
/-- Four bytes out of one to four numbers. -/
def fourV : List Int → Int × Int
  | [a] => if a < 4294967296 then (a, 0) else (0, 1)
  | [a, b] => if a ≤ 255 ∧ b < 16777216 then (a * 16777216 + b, 0) else (0, 1)
  | [a, b, c] => if a ≤ 255 ∧ b ≤ 255 ∧ c < 65536 then (a * 16777216 + b * 65536 + c, 0) else (0, 1)
  | [a, b, c, d] => if a ≤ 255 ∧ b ≤ 255 ∧ c ≤ 255 ∧ d < 256 then (a * 16777216 + b * 65536 + c * 256 + d, 0) else (0, 1)
  | _ => (0, 4)
def P4 (cap : Int) (l : List UInt8) : Int × Int := if 4000 < l.length then (0, 11) else if 4 < (prts l).length then (0, 4) else match vals cap (prts l) with
  | none => (0, 4)
  | some n => fourV n
theorem partV_caps (l : List UInt8) : ∃ (v : Int) (ok : Bool), 0 ≤ v ∧ ∀ cap, 0 ≤ cap → partV cap l = if ok = true then (mn v cap, true) else (0, false) := by
  unfold partV
  split
  · exact ⟨0, false, by omega, fun _ _ => rfl⟩
  · split
    · obtain ⟨v, h, k⟩ := nm_caps (b := 16) (by omega) (l.drop 2); exact ⟨v, _, h, k⟩
    · split
      · obtain ⟨v, h, k⟩ := nm_caps (b := 8) (by omega) (l.drop 1); exact ⟨v, _, h, k⟩
      · obtain ⟨v, h, k⟩ := nm_caps (b := 10) (by omega) l; exact ⟨v, _, h, k⟩
theorem vals_caps : ∀ L : List (List UInt8), (∃ vs : List Int, (∀ v ∈ vs, 0 ≤ v) ∧ vs.length = L.length ∧ ∀ cap, 0 ≤ cap → vals cap L = some (vs.map (mn · cap))) ∨ ∀ cap, 0 ≤ cap → vals cap L = none
  | [] => Or.inl ⟨[], (fun _ h => by cases h), rfl, fun _ _ => rfl⟩
  | x :: r => by
    obtain ⟨v, ok, h0, hv⟩ := partV_caps x
    cases ok with
    | false => exact Or.inr (fun cap hc => by unfold vals; rw [hv cap hc]; rfl)
    | true =>
      rcases vals_caps r with ⟨vs, h1, h2, h3⟩ | h3
      · exact Or.inl ⟨v :: vs, (by intro z hz; rcases List.mem_cons.1 hz with rfl | hz; exact h0; exact h1 z hz), by rw [List.length_cons, List.length_cons, h2], fun cap hc => by unfold vals; rw [hv cap hc, h3 cap hc]; rfl⟩
      · exact Or.inr (fun cap hc => by unfold vals; rw [hv cap hc, h3 cap hc]; rfl)
theorem four_caps (c d : Int) (hc : 4294967296 ≤ c) (hd : 4294967296 ≤ d) (vs : List Int) : fourV (vs.map (mn · c)) = fourV (vs.map (mn · d)) := by
  have h1 : ∀ v T : Int, T ≤ 4294967296 → (mn v c < T ↔ v < T) := fun v T hT => by unfold mn; split <;> omega
  have h2 : ∀ v T : Int, T ≤ 4294967296 → (mn v d < T ↔ v < T) := fun v T hT => by unfold mn; split <;> omega
  have h3 : ∀ v : Int, mn v c ≤ 255 ↔ v ≤ 255 := fun v => by unfold mn; split <;> omega
  have h4 : ∀ v : Int, mn v d ≤ 255 ↔ v ≤ 255 := fun v => by unfold mn; split <;> omega
  have e1 : ∀ v T : Int, T ≤ 4294967296 → v < T → mn v c = v := fun v T hT h => by unfold mn; split <;> omega
  have e2 : ∀ v T : Int, T ≤ 4294967296 → v < T → mn v d = v := fun v T hT h => by unfold mn; split <;> omega
  match vs with
  | [] => rfl
  | [a] =>
    simp only [List.map_cons, List.map_nil, fourV, h1 a 4294967296 (by omega), h2 a 4294967296 (by omega)]
    split
    · rename_i h; rw [e1 a _ (Int.le_refl _) h, e2 a _ (Int.le_refl _) h]
    · rfl
  | [a, b] =>
    simp only [List.map_cons, List.map_nil, fourV, h3, h4, h1 b 16777216 (by omega), h2 b 16777216 (by omega)]
    split
    · rename_i h; rw [e1 a 256 (by omega) (by omega), e2 a 256 (by omega) (by omega), e1 b 16777216 (by omega) h.2, e2 b 16777216 (by omega) h.2]
    · rfl
  | [a, b, x] =>
    simp only [List.map_cons, List.map_nil, fourV, h3, h4, h1 x 65536 (by omega), h2 x 65536 (by omega)]
    split
    · rename_i h; rw [e1 a 256 (by omega) (by omega), e2 a 256 (by omega) (by omega), e1 b 256 (by omega) (by omega), e2 b 256 (by omega) (by omega), e1 x 65536 (by omega) h.2.2, e2 x 65536 (by omega) h.2.2]
    · rfl
  | [a, b, x, y] =>
    simp only [List.map_cons, List.map_nil, fourV, h3, h4, h1 y 256 (by omega), h2 y 256 (by omega)]
    split
    · rename_i h; rw [e1 a 256 (by omega) (by omega), e2 a 256 (by omega) (by omega), e1 b 256 (by omega) (by omega), e2 b 256 (by omega) (by omega), e1 x 256 (by omega) (by omega), e2 x 256 (by omega) (by omega), e1 y 256 (by omega) h.2.2.2, e2 y 256 (by omega) h.2.2.2]
    · rfl
  | a :: b :: x :: y :: z :: r => rfl
theorem P4_caps (l : List UInt8) : P4 8589934592 l = P4 1099511627776 l := by
  unfold P4
  rcases vals_caps (prts l) with ⟨vs, h1, h2, h3⟩ | h3
  · rw [h3 _ (by omega), h3 _ (by omega)]
    simp only [four_caps 8589934592 1099511627776 (by omega) (by omega) vs]
  · rw [h3 _ (by omega), h3 _ (by omega)]
theorem shr_at (j : Nat) (hj : j ≤ 3) (v : Int) : shr .i64 v (wrap64 (8 * (wrap64 (4 - (j : Int))))) = v / [4294967296, 16777216, 65536, 256].getD j 1 := by
  match j, hj with
  | 0, _ => show _ = _; kernel_rfl
  | 1, _ => show _ = _; kernel_rfl
  | 2, _ => show _ = _; kernel_rfl
  | 3, _ => show _ = _; kernel_rfl
theorem shl_at (j : Nat) (hj : j < 3) (v : Int) : shl .i64 v (wrap64 (8 * (wrap64 (3 - (j : Int))))) = wrap64 (v * [16777216, 65536, 256].getD j 1) := by
  refine Eq.trans (b := IntKind.i64.wrap (v * [16777216, 65536, 256].getD j 1)) ?_ (i64_w _)
  match j, hj with
  | 0, _ => show _ = _; kernel_rfl
  | 1, _ => show _ = _; kernel_rfl
  | 2, _ => show _ = _; kernel_rfl
theorem four1 (a : Int) : fourV [a] = if a < 4294967296 then (a, 0) else (0, 1) := rfl
theorem four2 (a b : Int) : fourV [a, b] = if a ≤ 255 ∧ b < 16777216 then (a * 16777216 + b, 0) else (0, 1) := rfl
theorem four3 (a b c : Int) : fourV [a, b, c] = if a ≤ 255 ∧ b ≤ 255 ∧ c < 65536 then (a * 16777216 + b * 65536 + c, 0) else (0, 1) := rfl
theorem four4 (a b c d : Int) : fourV [a, b, c, d] = if a ≤ 255 ∧ b ≤ 255 ∧ c ≤ 255 ∧ d < 256 then (a * 16777216 + b * 65536 + c * 256 + d, 0) else (0, 1) := rfl
theorem l1_step (acc : Int) (L : List Int) (i : Nat) (v : Int) (hv : L[i]? = some v) (hL : L.length ≤ 3) {r : Int × Int} (h : v ≤ 255 → Ev (fun k => ip_Parse4.l1 k (wrap64 (acc + wrap64 (v * [16777216, 65536, 256].getD i 1))) L (L.length : Int) ((i + 1 : Nat) : Int)) r) (h2 : ¬ v ≤ 255 → r = (0, 1)) : Ev (fun k => ip_Parse4.l1 k acc L (L.length : Int) (i : Int)) r := by
  have hi := (List.getElem?_eq_some_iff.1 hv).1
  refine Ev.step (fun _ => ip_Parse4.l1.eq_2 ..) (Ev.pos (by omega) (Ev.pos (by omega) (Ev.pos (by omega) ?_)))
  rw [rd_of hv]
  by_cases q : v ≤ 255
  · refine Ev.neg (by omega) (Ev.pos ?_ ?_)
    · match i, (show i < 3 by omega) with
      | 0, _ => decide +kernel
      | 1, _ => decide +kernel
      | 2, _ => decide +kernel
    · rw [shl_at i (by omega), wrap_id (x := (i : Int) + 1) (by omega) (by omega), cast_succ]
      exact h q
  · rw [h2 q]
    exact Ev.pos (by omega) (Ev.now _)
theorem l1_end (acc : Int) (L : List Int) : Ev (fun k => ip_Parse4.l1 k acc L (L.length : Int) (L.length : Int)) (acc % 4294967296, 0) :=
  Ev.step (fun _ => ip_Parse4.l1.eq_2 ..) (Ev.neg (by omega) (Ev.now _))
theorem p4_last (L : List (List UInt8)) (m : List Int) (v : Int) (hm : m.length ≤ 3) (hl : m.length + 1 = L.length) {r : Int × Int} (h : v / [4294967296, 16777216, 65536, 256].getD m.length 1 ≤ 0 → Ev (fun k => ip_Parse4.l1 k v m (m.length : Int) 0) r) (h2 : v / [4294967296, 16777216, 65536, 256].getD m.length 1 > 0 → r = (0, 1)) :
    Ev (fun k => ip_Parse4.l0 k (m ++ [v]) (L.map mk) ((L.map mk).length : Int) (L.length : Int)) r := by
  have hn : (m ++ [v]).length = m.length + 1 := by rw [List.length_append]; rfl
  have e : wrap64 (((m ++ [v]).length : Int) - 1) = (m.length : Int) := by rw [hn, wrap_id (by omega) (by omega)]; omega
  have hg : (m ++ [v])[m.length]? = some v := by rw [List.getElem?_append_right (Nat.le_refl _), Nat.sub_self]; rfl
  refine Ev.step (fun _ => ip_Parse4.l0.eq_2 ..) (Ev.neg (by rw [List.length_map]; omega) ?_)
  rw [e, rd_of hg, shr_at m.length hm]
  refine Ev.pos (by omega) (Ev.pos (by rw [hn]; omega) (Ev.pos ?_ ?_))
  · match hj : m.length, hm with
    | 0, _ => decide +kernel
    | 1, _ => decide +kernel
    | 2, _ => decide +kernel
    | 3, _ => decide +kernel
  · by_cases q : v / [4294967296, 16777216, 65536, 256].getD m.length 1 > 0
    · rw [h2 q]
      exact Ev.pos q (Ev.now _)
    · refine Ev.neg q (Ev.pos (by rw [hn]; omega) (Ev.bnd (a := m) (by rw [Int.toNat_natCast, List.take_append_of_le_length (Nat.le_refl _), List.take_length]) ?_))
      exact h (by omega)
theorem p4_end (L : List (List UInt8)) (n : List Int) (hl : n.length = L.length) (hn : ∀ v ∈ n, 0 ≤ v ∧ v ≤ 8589934592) (h1 : 0 < n.length) (h4 : n.length ≤ 4) : Ev (fun k => ip_Parse4.l0 k n (L.map mk) ((L.map mk).length : Int) (L.length : Int)) (fourV n) := by
  match n, h1, h4 with
  | [a], _, _ =>
    have ha := hn a (by simp)
    refine p4_last L [] a (by simp) hl (fun q => ?_) (fun q => ?_)
    · have q' : a / 4294967296 ≤ 0 := q
      have z := l1_end a []
      rw [four1, if_pos (by omega)]
      rw [Int.emod_eq_of_lt ha.1 (by omega)] at z
      exact z
    · have q' : a / 4294967296 > 0 := q
      rw [four1, if_neg (by omega)]
  | [a, b], _, _ =>
    have ha := hn a (by simp)
    have hb := hn b (by simp)
    refine p4_last L [a] b (by simp) hl (fun q => ?_) (fun q => ?_)
    · have q' : b / 16777216 ≤ 0 := q
      refine l1_step b [a] 0 a rfl (by simp) (fun h => ?_) (fun h => by rw [four2, if_neg (fun z => h z.1)])
      have z := l1_end (wrap64 (b + wrap64 (a * 16777216))) [a]
      rw [four2, if_pos ⟨h, by omega⟩]
      rw [wrap_id (x := a * 16777216) (by omega) (by omega), wrap_id (by omega) (by omega), Int.emod_eq_of_lt (by omega) (by omega), Int.add_comm b] at z
      rw [show wrap64 (b + wrap64 (a * [16777216, 65536, 256].getD 0 1)) = a * 16777216 + b by show wrap64 (b + wrap64 (a * 16777216)) = _; rw [wrap_id (x := a * 16777216) (by omega) (by omega), wrap_id (by omega) (by omega), Int.add_comm]]
      exact z
    · have q' : b / 16777216 > 0 := q
      rw [four2, if_neg (by omega)]
  | [a, b, c], _, _ =>
    have ha := hn a (by simp)
    have hb := hn b (by simp)
    have hc := hn c (by simp)
    refine p4_last L [a, b] c (by simp) hl (fun q => ?_) (fun q => ?_)
    · have q' : c / 65536 ≤ 0 := q
      refine l1_step c [a, b] 0 a rfl (by simp) (fun h => ?_) (fun h => by rw [four3, if_neg (fun z => h z.1)])
      refine l1_step _ [a, b] 1 b rfl (by simp) (fun h' => ?_) (fun h' => by rw [four3, if_neg (fun z => h' z.2.1)])
      have e : wrap64 (wrap64 (c + wrap64 (a * [16777216, 65536, 256].getD 0 1)) + wrap64 (b * [16777216, 65536, 256].getD 1 1)) = a * 16777216 + b * 65536 + c := by
        show wrap64 (wrap64 (c + wrap64 (a * 16777216)) + wrap64 (b * 65536)) = _
        rw [wrap_id (x := a * 16777216) (by omega) (by omega), wrap_id (x := b * 65536) (by omega) (by omega), wrap_id (x := c + a * 16777216) (by omega) (by omega), wrap_id (by omega) (by omega)]; omega
      rw [e]
      have z := l1_end (a * 16777216 + b * 65536 + c) [a, b]
      rw [Int.emod_eq_of_lt (by omega) (by omega)] at z
      rw [four3, if_pos ⟨h, h', by omega⟩]
      exact z
    · have q' : c / 65536 > 0 := q
      rw [four3, if_neg (by omega)]
  | [a, b, c, d], _, _ =>
    have ha := hn a (by simp)
    have hb := hn b (by simp)
    have hc := hn c (by simp)
    have hd := hn d (by simp)
    refine p4_last L [a, b, c] d (by simp) hl (fun q => ?_) (fun q => ?_)
    · have q' : d / 256 ≤ 0 := q
      refine l1_step d [a, b, c] 0 a rfl (by simp) (fun h => ?_) (fun h => by rw [four4, if_neg (fun z => h z.1)])
      refine l1_step _ [a, b, c] 1 b rfl (by simp) (fun h' => ?_) (fun h' => by rw [four4, if_neg (fun z => h' z.2.1)])
      refine l1_step _ [a, b, c] 2 c rfl (by simp) (fun h2 => ?_) (fun h2 => by rw [four4, if_neg (fun z => h2 z.2.2.1)])
      have e : wrap64 (wrap64 (wrap64 (d + wrap64 (a * [16777216, 65536, 256].getD 0 1)) + wrap64 (b * [16777216, 65536, 256].getD 1 1)) + wrap64 (c * [16777216, 65536, 256].getD 2 1)) = a * 16777216 + b * 65536 + c * 256 + d := by
        show wrap64 (wrap64 (wrap64 (d + wrap64 (a * 16777216)) + wrap64 (b * 65536)) + wrap64 (c * 256)) = _
        rw [wrap_id (x := a * 16777216) (by omega) (by omega), wrap_id (x := b * 65536) (by omega) (by omega), wrap_id (x := c * 256) (by omega) (by omega), wrap_id (x := d + a * 16777216) (by omega) (by omega), wrap_id (x := d + a * 16777216 + b * 65536) (by omega) (by omega), wrap_id (by omega) (by omega)]; omega
      rw [e]
      have z := l1_end (a * 16777216 + b * 65536 + c * 256 + d) [a, b, c]
      rw [Int.emod_eq_of_lt (by omega) (by omega)] at z
      rw [four4, if_pos ⟨h, h', h2, by omega⟩]
      exact z
    · have q' : d / 256 > 0 := q
      rw [four4, if_neg (by omega)]
theorem mn_rng {v c : Int} (h : 0 ≤ v) (hc : 0 ≤ c) : 0 ≤ mn v c ∧ mn v c ≤ c := by unfold mn; split <;> omega
theorem partV_rng (cap : Int) (hc : 0 ≤ cap) (l : List UInt8) : 0 ≤ (partV cap l).1 ∧ (partV cap l).1 ≤ cap := by
  obtain ⟨v, ok, h0, hv⟩ := partV_caps l
  rw [hv cap hc]
  cases ok with
  | false => exact ⟨Int.le_refl _, hc⟩
  | true => exact mn_rng h0 hc
theorem p4_loop (L : List (List UInt8)) (hL : L.length ≤ 4) (h1 : 0 < L.length) (hs : ∀ x ∈ L, x.length ≤ 1000000000) : ∀ (rest : List (List UInt8)) (i : Nat) (acc : List Int), L.drop i = rest → i ≤ L.length → acc.length = i → (∀ v ∈ acc, 0 ≤ v ∧ v ≤ 8589934592) → Ev (fun k => ip_Parse4.l0 k acc (L.map mk) ((L.map mk).length : Int) (i : Int)) (match vals 8589934592 rest with | none => (0, 4) | some n => fourV (acc ++ n))
  | [], i, acc, h, hi, ha, hv => by
    have e : i = L.length := by have := drop_nil h; omega
    subst e
    simp only [vals, List.append_nil]
    exact p4_end L acc ha hv (by omega) (by omega)
  | x :: r, i, acc, h, hi, ha, hv => by
    obtain ⟨e1, e2, e3⟩ := drop_cons h
    have hx : x ∈ L := List.mem_of_getElem? e2
    have hsx : (mk x).size ≤ 1000000000 := by rw [size_B, B_mk]; exact hs x hx
    have hg : (L.map mk)[i]? = some (mk x) := by rw [List.getElem?_map, e2]; rfl
    refine Ev.step (fun _ => ip_Parse4.l0.eq_2 ..) (Ev.pos (by rw [List.length_map]; omega) (Ev.pos (by omega) (Ev.pos (by rw [List.length_map]; omega) ?_)))
    rw [rdOf_of hg]
    refine Ev.bind (part_prog (mk x) hsx) ?_
    rw [B_mk]
    unfold vals
    by_cases hok : (partV 8589934592 x).2 = true
    · rw [if_pos hok]
      have ih := p4_loop L hL h1 hs r (i + 1) (acc ++ [(partV 8589934592 x).1]) e3 (by omega) (by rw [List.length_append, ha]; rfl) (by
        intro v hv'
        rcases List.mem_append.1 hv' with q | q
        · exact hv v q
        · rw [List.mem_singleton.1 q]; exact partV_rng _ (by omega) x)
      refine Ev.pos hok (Ev.pos (by omega) ?_)
      rw [wrap_id (x := (i : Int) + 1) (by omega) (by omega), cast_succ]
      cases hr : vals 8589934592 r with
      | none => rw [hr] at ih; exact ih
      | some n =>
        rw [hr] at ih
        simp only [List.append_assoc, List.cons_append, List.nil_append] at ih
        exact ih
    · rw [if_neg hok]
      exact Ev.neg hok (Ev.now _)
theorem Parse4_prog (s : ByteArray) (hs : s.size ≤ 1000000000) : Ev (fun k => ip_Parse4.f k s) (P4 8589934592 (B s)) := by
  have hz := size_B s
  unfold P4
  by_cases h0 : 4000 < (B s).length
  · rw [if_pos h0]
    exact Ev.pos (by omega) (Ev.now _)
  · rw [if_neg h0]
    refine Ev.neg (by omega) (Ev.bnd (parts_prog s hs) ?_)
    by_cases h4 : 4 < (prts (B s)).length
    · rw [if_pos h4]
      exact Ev.pos (by rw [List.length_map]; omega) (Ev.now _)
    · rw [if_neg h4]
      refine Ev.neg (by rw [List.length_map]; omega) ?_
      exact p4_loop (prts (B s)) (by omega) (List.length_pos_iff.2 (prts_ne _)) (fun x hx => by have := prts_mem hx; omega) (prts (B s)) 0 [] rfl (by omega) rfl (fun _ h => by cases h)
theorem u64_w {x : Int} (h0 : 0 ≤ x) (h1 : x < 18446744073709551616) : IntKind.u64.wrap x = x := by show x % 18446744073709551616 = x; exact Int.emod_eq_of_lt h0 h1
theorem shrU_at (j : Nat) (hj : j ≤ 3) (v : Int) : shr .i64 v (IntKind.u64.wrap (wrap64 (8 * (wrap64 (5 - ((j + 1 : Nat) : Int)))))) = v / [4294967296, 16777216, 65536, 256].getD j 1 := by
  match j, hj with
  | 0, _ => show _ = _; kernel_rfl
  | 1, _ => show _ = _; kernel_rfl
  | 2, _ => show _ = _; kernel_rfl
  | 3, _ => show _ = _; kernel_rfl
theorem shlU_at (j : Nat) (hj : j < 3) (v : Int) : shl .i64 v (IntKind.u64.wrap (wrap64 (8 * (wrap64 (3 - (j : Int)))))) = wrap64 (v * [16777216, 65536, 256].getD j 1) := by
  refine Eq.trans (b := IntKind.i64.wrap (v * [16777216, 65536, 256].getD j 1)) ?_ (i64_w _)
  match j, hj with
  | 0, _ => show _ = _; kernel_rfl
  | 1, _ => show _ = _; kernel_rfl
  | 2, _ => show _ = _; kernel_rfl
theorem r1_step (acc : Int) (L : List Int) (i : Nat) (v : Int) (hv : L[i]? = some v) (hi : i + 1 < L.length) (hL : L.length ≤ 4) {r : Int × Int} (h : v ≤ 255 → Ev (fun k => sprref7_Parse4.l1 k L (wrap64 (acc + wrap64 (v * [16777216, 65536, 256].getD i 1))) ((i + 1 : Nat) : Int)) r) (h2 : ¬ v ≤ 255 → r = (0, 1)) : Ev (fun k => sprref7_Parse4.l1 k L acc (i : Int)) r := by
  have e : wrap64 ((L.length : Int) - 1) = (L.length : Int) - 1 := wrap_id (by omega) (by omega)
  refine Ev.step (fun _ => sprref7_Parse4.l1.eq_2 ..) (Ev.pos (by omega) (Ev.pos (by rw [e]; omega) (Ev.pos (by omega) ?_)))
  rw [rd_of hv]
  by_cases q : v ≤ 255
  · refine Ev.neg (by omega) (Ev.pos ?_ ?_)
    · match i, (show i < 3 by omega) with
      | 0, _ => decide +kernel
      | 1, _ => decide +kernel
      | 2, _ => decide +kernel
    · rw [shlU_at i (by omega), wrap_id (x := (i : Int) + 1) (by omega) (by omega), cast_succ]
      exact h q
  · rw [h2 q]
    exact Ev.pos (by omega) (Ev.now _)
theorem r1_last (acc : Int) (m : List Int) (v : Int) (hm : m.length ≤ 3) {r : Int × Int} (h : v / [4294967296, 16777216, 65536, 256].getD m.length 1 ≤ 0 → r = (wrap64 (acc + v) % 4294967296, 0)) (h2 : v / [4294967296, 16777216, 65536, 256].getD m.length 1 > 0 → r = (0, 1)) : Ev (fun k => sprref7_Parse4.l1 k (m ++ [v]) acc (m.length : Int)) r := by
  have hn : (m ++ [v]).length = m.length + 1 := by rw [List.length_append]; rfl
  have e : wrap64 (((m ++ [v]).length : Int) - 1) = (m.length : Int) := by rw [hn, wrap_id (by omega) (by omega)]; omega
  have hg : (m ++ [v])[m.length]? = some v := by rw [List.getElem?_append_right (Nat.le_refl _), Nat.sub_self]; rfl
  refine Ev.step (fun _ => sprref7_Parse4.l1.eq_2 ..) (Ev.pos (by rw [hn]; omega) (Ev.neg (by rw [e]; omega) (Ev.pos (by omega) (Ev.pos ?_ ?_))))
  · rw [hn]
    match hj : m.length, hm with
    | 0, _ => decide +kernel
    | 1, _ => decide +kernel
    | 2, _ => decide +kernel
    | 3, _ => decide +kernel
  · rw [rd_of hg, hn, shrU_at m.length hm]
    by_cases q : v / [4294967296, 16777216, 65536, 256].getD m.length 1 > 0
    · rw [h2 q]
      exact Ev.pos q (Ev.now _)
    · rw [h (by omega)]
      refine Ev.neg q (Ev.step (fun _ => sprref7_Parse4.l1.eq_2 ..) ?_)
      rw [wrap_id (x := (m.length : Int) + 1) (by omega) (by omega), cast_succ]
      exact Ev.neg (by rw [hn]; omega) (Ev.now _)
theorem r4_end (n : List Int) (hn : ∀ v ∈ n, 0 ≤ v ∧ v ≤ 1099511627776) (h1 : 0 < n.length) (h4 : n.length ≤ 4) : Ev (fun k => sprref7_Parse4.l1 k n 0 0) (fourV n) := by
  match n, h1, h4 with
  | [a], _, _ =>
    have ha := hn a (by simp)
    refine r1_last 0 [] a (by simp) (fun q => ?_) (fun q => ?_)
    · have q' : a / 4294967296 ≤ 0 := q
      rw [four1, if_pos (by omega), wrap_id (by omega) (by omega), Int.emod_eq_of_lt (by omega) (by omega), Int.zero_add]
    · have q' : a / 4294967296 > 0 := q
      rw [four1, if_neg (by omega)]
  | [a, b], _, _ =>
    have ha := hn a (by simp)
    have hb := hn b (by simp)
    refine r1_step 0 [a, b] 0 a rfl (by simp) (by simp) (fun h => ?_) (fun h => by rw [four2, if_neg (fun z => h z.1)])
    refine r1_last _ [a] b (by simp) (fun q => ?_) (fun q => ?_)
    · have q' : b / 16777216 ≤ 0 := q
      rw [four2, if_pos ⟨h, by omega⟩]
      show _ = (wrap64 (wrap64 (0 + wrap64 (a * 16777216)) + b) % 4294967296, 0)
      rw [wrap_id (x := a * 16777216) (by omega) (by omega), wrap_id (x := 0 + a * 16777216) (by omega) (by omega), wrap_id (by omega) (by omega), Int.emod_eq_of_lt (by omega) (by omega), Int.zero_add]
    · have q' : b / 16777216 > 0 := q
      rw [four2, if_neg (by omega)]
  | [a, b, c], _, _ =>
    have ha := hn a (by simp)
    have hb := hn b (by simp)
    have hc := hn c (by simp)
    refine r1_step 0 [a, b, c] 0 a rfl (by simp) (by simp) (fun h => ?_) (fun h => by rw [four3, if_neg (fun z => h z.1)])
    refine r1_step _ [a, b, c] 1 b rfl (by simp) (by simp) (fun h' => ?_) (fun h' => by rw [four3, if_neg (fun z => h' z.2.1)])
    refine r1_last _ [a, b] c (by simp) (fun q => ?_) (fun q => ?_)
    · have q' : c / 65536 ≤ 0 := q
      rw [four3, if_pos ⟨h, h', by omega⟩]
      show _ = (wrap64 (wrap64 (wrap64 (0 + wrap64 (a * 16777216)) + wrap64 (b * 65536)) + c) % 4294967296, 0)
      rw [wrap_id (x := a * 16777216) (by omega) (by omega), wrap_id (x := b * 65536) (by omega) (by omega), wrap_id (x := 0 + a * 16777216) (by omega) (by omega), wrap_id (x := 0 + a * 16777216 + b * 65536) (by omega) (by omega), wrap_id (by omega) (by omega), Int.emod_eq_of_lt (by omega) (by omega), Int.zero_add]
    · have q' : c / 65536 > 0 := q
      rw [four3, if_neg (by omega)]
  | [a, b, c, d], _, _ =>
    have ha := hn a (by simp)
    have hb := hn b (by simp)
    have hc := hn c (by simp)
    have hd := hn d (by simp)
    refine r1_step 0 [a, b, c, d] 0 a rfl (by simp) (by simp) (fun h => ?_) (fun h => by rw [four4, if_neg (fun z => h z.1)])
    refine r1_step _ [a, b, c, d] 1 b rfl (by simp) (by simp) (fun h' => ?_) (fun h' => by rw [four4, if_neg (fun z => h' z.2.1)])
    refine r1_step _ [a, b, c, d] 2 c rfl (by simp) (by simp) (fun h2 => ?_) (fun h2 => by rw [four4, if_neg (fun z => h2 z.2.2.1)])
    refine r1_last _ [a, b, c] d (by simp) (fun q => ?_) (fun q => ?_)
    · have q' : d / 256 ≤ 0 := q
      rw [four4, if_pos ⟨h, h', h2, by omega⟩]
      show _ = (wrap64 (wrap64 (wrap64 (wrap64 (0 + wrap64 (a * 16777216)) + wrap64 (b * 65536)) + wrap64 (c * 256)) + d) % 4294967296, 0)
      rw [wrap_id (x := a * 16777216) (by omega) (by omega), wrap_id (x := b * 65536) (by omega) (by omega), wrap_id (x := c * 256) (by omega) (by omega), wrap_id (x := 0 + a * 16777216) (by omega) (by omega), wrap_id (x := 0 + a * 16777216 + b * 65536) (by omega) (by omega), wrap_id (x := 0 + a * 16777216 + b * 65536 + c * 256) (by omega) (by omega), wrap_id (by omega) (by omega), Int.emod_eq_of_lt (by omega) (by omega), Int.zero_add]
    · have q' : d / 256 > 0 := q
      rw [four4, if_neg (by omega)]
theorem r4_loop (L : List (List UInt8)) (hL : L.length ≤ 4) (h1 : 0 < L.length) (hs : ∀ x ∈ L, x.length ≤ 1000000000) : ∀ (rest : List (List UInt8)) (i : Nat) (acc : List Int), L.drop i = rest → i ≤ L.length → acc.length = i → (∀ v ∈ acc, 0 ≤ v ∧ v ≤ 1099511627776) → Ev (fun k => sprref7_Parse4.l0 k (L.map mk) acc (i : Int)) (match vals 1099511627776 rest with | none => (0, 4) | some n => fourV (acc ++ n))
  | [], i, acc, h, hi, ha, hv => by
    have e : i = L.length := by have := drop_nil h; omega
    subst e
    simp only [vals, List.append_nil]
    exact Ev.step (fun _ => sprref7_Parse4.l0.eq_2 ..) (Ev.neg (by rw [List.length_map]; omega) (r4_end acc hv (by omega) (by omega)))
  | x :: r, i, acc, h, hi, ha, hv => by
    obtain ⟨e1, e2, e3⟩ := drop_cons h
    have hx : x ∈ L := List.mem_of_getElem? e2
    have hsx : (mk x).size ≤ 1000000000 := by rw [size_B, B_mk]; exact hs x hx
    have hg : (L.map mk)[i]? = some (mk x) := by rw [List.getElem?_map, e2]; rfl
    refine Ev.step (fun _ => sprref7_Parse4.l0.eq_2 ..) (Ev.pos (by rw [List.length_map]; omega) (Ev.pos (by omega) ?_))
    rw [rdOf_of hg]
    refine Ev.bind (number_ref (mk x) hsx) ?_
    rw [B_mk]
    unfold vals
    by_cases hok : (partV 1099511627776 x).2 = true
    · rw [if_pos hok]
      have ih := r4_loop L hL h1 hs r (i + 1) (acc ++ [(partV 1099511627776 x).1]) e3 (by omega) (by rw [List.length_append, ha]; rfl) (by
        intro v hv'
        rcases List.mem_append.1 hv' with q | q
        · exact hv v q
        · rw [List.mem_singleton.1 q]; exact partV_rng _ (by omega) x)
      refine Ev.pos hok (Ev.pos (by omega) ?_)
      rw [wrap_id (x := (i : Int) + 1) (by omega) (by omega), cast_succ]
      cases hr : vals 1099511627776 r with
      | none => rw [hr] at ih; exact ih
      | some n =>
        rw [hr] at ih
        simp only [List.append_assoc, List.cons_append, List.nil_append] at ih
        exact ih
    · rw [if_neg hok]
      exact Ev.neg hok (Ev.now _)
theorem Parse4_ref (s : ByteArray) (hs : s.size ≤ 1000000000) : Ev (fun k => sprref7_Parse4.f k s) (P4 8589934592 (B s)) := by
  rw [P4_caps]
  have hz := size_B s
  unfold P4
  by_cases h0 : 4000 < (B s).length
  · rw [if_pos h0]
    exact Ev.pos (by omega) (Ev.now _)
  · rw [if_neg h0]
    refine Ev.neg (by omega) (Ev.bind (parts_ref s hs) ?_)
    by_cases h4 : 4 < (prts (B s)).length
    · rw [if_pos h4]
      exact Ev.pos (by rw [List.length_map]; omega) (Ev.now _)
    · rw [if_neg h4]
      refine Ev.neg (by rw [List.length_map]; omega) ?_
      exact r4_loop (prts (B s)) (by omega) (List.length_pos_iff.2 (prts_ne _)) (fun x hx => by have := prts_mem hx; omega) (prts (B s)) 0 [] rfl (by omega) rfl (fun _ h => by cases h)
theorem i64w (n : Int) (h₀ : 0 ≤ n) (h₁ : n < 2 ^ 63) : IntKind.i64.wrap n = n := by rw [IntKind.wrap_i64]; omega
theorem and63 (x : Int) (h0 : 0 ≤ x) (h1 : x < 9223372036854775808) : Go.bits .and .i64 x 63 = x % 64 := Go.bits_mask .i64 63 (by decide) i64w 6 (by decide) x h0 h1
theorem and31 (x : Int) (h0 : 0 ≤ x) (h1 : x < 9223372036854775808) : Go.bits .and .i64 x 31 = x % 32 := Go.bits_mask .i64 63 (by decide) i64w 5 (by decide) x h0 h1
theorem and15 (x : Int) (h0 : 0 ≤ x) (h1 : x < 9223372036854775808) : Go.bits .and .i64 x 15 = x % 16 := Go.bits_mask .i64 63 (by decide) i64w 4 (by decide) x h0 h1
theorem and7 (x : Int) (h0 : 0 ≤ x) (h1 : x < 9223372036854775808) : Go.bits .and .i64 x 7 = x % 8 := Go.bits_mask .i64 63 (by decide) i64w 3 (by decide) x h0 h1
theorem or128 (y : Int) (h0 : 0 ≤ y) (h1 : y < 64) : Go.bits .or .i64 128 y = 128 + y :=
  Go.bits_join .i64 63 (by decide) i64w 6 128 y (by decide) (by decide) (by decide) h0 h1 (by omega)
theorem or192 (y : Int) (h0 : 0 ≤ y) (h1 : y < 32) : Go.bits .or .i64 192 y = 192 + y :=
  Go.bits_join .i64 63 (by decide) i64w 5 192 y (by decide) (by decide) (by decide) h0 h1 (by omega)
theorem or224 (y : Int) (h0 : 0 ≤ y) (h1 : y < 16) : Go.bits .or .i64 224 y = 224 + y :=
  Go.bits_join .i64 63 (by decide) i64w 4 224 y (by decide) (by decide) (by decide) h0 h1 (by omega)
theorem or240 (y : Int) (h0 : 0 ≤ y) (h1 : y < 8) : Go.bits .or .i64 240 y = 240 + y :=
  Go.bits_join .i64 63 (by decide) i64w 3 240 y (by decide) (by decide) (by decide) h0 h1 (by omega)
theorem orsix (x y : Int) (hx : 0 ≤ x) (hx1 : x < 100000000000000000) (h0 : 0 ≤ y) (h1 : y < 64) : Go.bits .or .i64 (x * 64) y = x * 64 + y :=
  Go.bits_join .i64 63 (by decide) i64w 6 (x * 64) y (by omega) (by omega) (by omega) h0 h1 (by omega)
theorem or16 (x y : Int) (hx : 0 ≤ x) (hx1 : x < 100000000000000000) (h0 : 0 ≤ y) (h1 : y < 16) : Go.bits .or .i64 (x * 16) y = x * 16 + y :=
  Go.bits_join .i64 63 (by decide) i64w 4 (x * 16) y (by omega) (by omega) (by omega) h0 h1 (by omega)
theorem or256 (x y : Int) (hx : 0 ≤ x) (hx1 : x < 10000000000000000) (h0 : 0 ≤ y) (h1 : y < 256) : Go.bits .or .i64 (x * 256) y = x * 256 + y :=
  Go.bits_join .i64 63 (by decide) i64w 8 (x * 256) y (by omega) (by omega) (by omega) h0 h1 (by omega)
/-- A piece of up to four digits of 16. -/
def pieceV (x : List UInt8) : Option Int := if x ≠ [] ∧ x.length ≤ 4 ∧ x.all (isD 16) = true then some (valL 16 x 0) else none
/-- A byte in digits of 10. -/
def byteV (x : List UInt8) : Option Int := if x ≠ [] ∧ x.length ≤ 3 ∧ x.all (isD 10) = true ∧ ¬ (1 < x.length ∧ x.head? = some 48) ∧ valL 10 x 0 ≤ 255 then some (valL 10 x 0) else none
def bytesV : List (List UInt8) → Option (List Int)
  | [] => some []
  | x :: r => (byteV x).bind fun v => (bytesV r).map (v :: ·)
def dotL : List Int → Option (List Int)
  | [a, b, c, d] => some [a * 256 + b, c * 256 + d]
  | _ => none
/-- Four bytes with points between, as two pieces. -/
def dotV (x : List UInt8) : Option (List Int) := if (spl 46 x).length = 4 then (bytesV (spl 46 x)).bind dotL else none
def piecesV (last : Bool) : List (List UInt8) → Option (List Int)
  | [] => some []
  | x :: r => if last = true ∧ r = [] ∧ 46 ∈ x then dotV x else (pieceV x).bind fun v => (piecesV last r).map (v :: ·)
/-- Pieces with colons between. -/
def PL (last : Bool) (l : List UInt8) : Option (List Int) := if l = [] then some [] else piecesV last (spl 58 l)
theorem val16_lt {x : List UInt8} (h : x.all (isD 16) = true) (hl : x.length ≤ 4) : 0 ≤ valL 16 x 0 ∧ valL 16 x 0 < 65536 := by
  rw [List.all_eq_true] at h
  have hd : ∀ c ∈ x, 0 ≤ dv c ∧ dv c < 16 := fun c hc => isD_iff.1 (h c hc)
  match x, hl with
  | [], _ => exact ⟨Int.le_refl _, by decide⟩
  | [a], _ =>
    have := hd a (by simp)
    simp only [valL]; omega
  | [a, b], _ =>
    have := hd a (by simp); have := hd b (by simp)
    simp only [valL]; omega
  | [a, b, c], _ =>
    have := hd a (by simp); have := hd b (by simp); have := hd c (by simp)
    simp only [valL]; omega
  | [a, b, c, d], _ =>
    have := hd a (by simp); have := hd b (by simp); have := hd c (by simp); have := hd d (by simp)
    simp only [valL]; omega
theorem nm_val {cap b : Int} (hb : b = 8 ∨ b = 10 ∨ b = 16) (hc : 0 ≤ cap) {l : List UInt8} (h : l.all (isD b) = true) : nm cap b l = (mn (valL b l 0) cap, true) := by
  have z := numL_val cap b hb hc l 0 h (by omega)
  rw [show mn 0 cap = 0 by unfold mn; split <;> omega] at z
  unfold nm
  rw [if_pos h, z]
theorem nm_no {cap b : Int} {l : List UInt8} (h : ¬ l.all (isD b) = true) : nm cap b l = (0, false) := by unfold nm; rw [if_neg h]
theorem mn_id {v c : Int} (h : v ≤ c) : mn v c = v := by unfold mn; split <;> omega
theorem pieceV_rng {x : List UInt8} {v : Int} (h : pieceV x = some v) : 0 ≤ v ∧ v < 65536 := by
  unfold pieceV at h
  split at h
  · rename_i q
    obtain rfl := Option.some.inj h
    exact val16_lt q.2.2 q.2.1
  · cases h
theorem byteV_rng {x : List UInt8} {v : Int} (h : byteV x = some v) : 0 ≤ v ∧ v ≤ 255 := by
  unfold byteV at h
  split at h
  · rename_i q
    obtain rfl := Option.some.inj h
    exact ⟨valL_ge 10 (by omega) x 0 q.2.2.1 (by omega), q.2.2.2.2⟩
  · cases h
theorem bytesV_rng : ∀ {L : List (List UInt8)} {w : List Int}, bytesV L = some w → w.length = L.length ∧ ∀ v ∈ w, 0 ≤ v ∧ v ≤ 255
  | [], w, h => by
    obtain rfl := Option.some.inj h
    exact ⟨rfl, fun _ h => by cases h⟩
  | x :: r, w, h => by
    unfold bytesV at h
    obtain ⟨v, hv, h⟩ := Option.bind_eq_some_iff.1 h
    obtain ⟨u, hu, rfl⟩ := Option.map_eq_some_iff.1 h
    obtain ⟨h1, h2⟩ := bytesV_rng hu
    refine ⟨by rw [List.length_cons, List.length_cons, h1], fun z hz => ?_⟩
    rcases List.mem_cons.1 hz with rfl | hz
    · exact byteV_rng hv
    · exact h2 z hz
theorem dotV_rng {x : List UInt8} {w : List Int} (h : dotV x = some w) : w.length = 2 ∧ ∀ v ∈ w, 0 ≤ v ∧ v < 65536 := by
  unfold dotV at h
  split at h
  · obtain ⟨u, hu, h⟩ := Option.bind_eq_some_iff.1 h
    have hr := (bytesV_rng hu).2
    match u, h with
    | [a, b, c, d], h =>
      obtain rfl := Option.some.inj h
      have := hr a (by simp); have := hr b (by simp); have := hr c (by simp); have := hr d (by simp)
      refine ⟨rfl, fun v hv => ?_⟩
      rcases List.mem_cons.1 hv with rfl | hv
      · omega
      · rw [List.mem_singleton.1 hv]; omega
  · cases h
theorem piecesV_rng (last : Bool) : ∀ {L : List (List UInt8)} {w : List Int}, piecesV last L = some w → w.length ≤ L.length + 1 ∧ ∀ v ∈ w, 0 ≤ v ∧ v < 65536
  | [], w, h => by
    obtain rfl := Option.some.inj h
    exact ⟨Nat.zero_le _, fun _ h => by cases h⟩
  | x :: r, w, h => by
    unfold piecesV at h
    split at h
    · obtain ⟨h1, h2⟩ := dotV_rng h
      exact ⟨by rw [h1, List.length_cons]; omega, h2⟩
    · obtain ⟨v, hv, h⟩ := Option.bind_eq_some_iff.1 h
      obtain ⟨u, hu, rfl⟩ := Option.map_eq_some_iff.1 h
      obtain ⟨h1, h2⟩ := piecesV_rng last hu
      refine ⟨by rw [List.length_cons, List.length_cons]; omega, fun z hz => ?_⟩
      rcases List.mem_cons.1 hz with rfl | hz
      · exact pieceV_rng hv
      · exact h2 z hz
theorem PL_rng {last : Bool} {l : List UInt8} {w : List Int} (h : PL last l = some w) : w.length ≤ l.length + 2 ∧ ∀ v ∈ w, 0 ≤ v ∧ v < 65536 := by
  unfold PL at h
  split at h
  · obtain rfl := Option.some.inj h
    exact ⟨Nat.zero_le _, fun _ h => by cases h⟩
  · have := spl_len 58 l
    obtain ⟨h1, h2⟩ := piecesV_rng last h
    exact ⟨by omega, h2⟩
theorem strings_Cut_range : ∀ (s : List UInt8) (c : UInt8), -1 ≤ Lib.indexByte s c
  | [], c => by unfold Lib.indexByte; simp
  | x :: t, c => by
    have ih := strings_Cut_range t c
    unfold Lib.indexByte
    split
    · omega
    · split
      · omega
      · omega
theorem idx_mem (c : UInt8) : ∀ l : List UInt8, 0 ≤ Lib.indexByte l c ↔ c ∈ l
  | [] => by simp [Lib.indexByte]
  | b :: t => by
    have ih := idx_mem c t
    unfold Lib.indexByte
    split
    · rename_i h
      have e : b = c := by simpa using h
      subst e
      simp
    · rename_i h
      have hne : ¬ b = c := by simpa using h
      rw [List.mem_cons]
      split
      · rename_i h2
        have e : Lib.indexByte t c = -1 := by simpa using h2
        rw [e] at ih
        constructor
        · intro q; omega
        · rintro (q | q)
          · exact absurd q.symm hne
          · have := ih.2 q; omega
      · rename_i h2
        have hr := strings_Cut_range t c
        constructor
        · intro q
          right; apply ih.1
          have : Lib.indexByte t c ≠ -1 := by simpa using h2
          omega
        · rintro (q | q)
          · exact absurd q.symm hne
          · have := ih.2 q; omega
theorem spl_two (c : UInt8) : ∀ l : List UInt8, 1 < (spl c l).length ↔ c ∈ l
  | [] => by simp [spl]
  | b :: t => by
    have ih := spl_two c t
    have hne : 0 < (spl c t).length := List.length_pos_iff.2 (spl_ne c t)
    unfold spl
    split
    · rename_i h
      subst h
      simp only [List.length_cons, List.mem_cons, true_or, iff_true]
      omega
    · rename_i h
      rw [List.length_cons, List.length_tail, List.mem_cons]
      constructor
      · intro q; right; apply ih.1; omega
      · rintro (q | q)
        · exact absurd q.symm h
        · have := ih.2 q; omega
theorem val10_lt {x : List UInt8} (h : x.all (isD 10) = true) (hl : x.length ≤ 3) : 0 ≤ valL 10 x 0 ∧ valL 10 x 0 < 1000 := by
  rw [List.all_eq_true] at h
  have hd : ∀ c ∈ x, 0 ≤ dv c ∧ dv c < 10 := fun c hc => isD_iff.1 (h c hc)
  match x, hl with
  | [], _ => exact ⟨Int.le_refl _, by decide⟩
  | [a], _ =>
    have := hd a (by simp)
    simp only [valL]; omega
  | [a, b], _ =>
    have := hd a (by simp); have := hd b (by simp)
    simp only [valL]; omega
  | [a, b, c], _ =>
    have := hd a (by simp); have := hd b (by simp); have := hd c (by simp)
    simp only [valL]; omega
theorem four_step (L : List (List UInt8)) (hL : L.length = 4) (i : Nat) (x : List UInt8) (hx : L[i]? = some x) (hsx : x.length ≤ 1000000000) (n : Int) (h0 : 0 ≤ n) (h1 : n < 4294967296) {r : List Int × Bool}
    (h : ∀ v, byteV x = some v → Ev (fun k => ip_four.l0 k (n * 256 + v) (L.map mk) ((L.map mk).length : Int) ((i + 1 : Nat) : Int)) r) (h2 : byteV x = none → r = ([], false)) : Ev (fun k => ip_four.l0 k n (L.map mk) ((L.map mk).length : Int) (i : Int)) r := by
  have hi := (List.getElem?_eq_some_iff.1 hx).1
  have hg : (L.map mk)[i]? = some (mk x) := by rw [List.getElem?_map, hx]; rfl
  have hz : (mk x).size = x.length := by rw [size_B, B_mk]
  refine Ev.step (fun _ => ip_four.l0.eq_2 ..) (Ev.pos (by rw [List.length_map]; omega) (Ev.pos (by omega) (Ev.pos (by rw [List.length_map]; omega) ?_)))
  rw [rdOf_of hg]
  refine Ev.bind (number_prog 10 (by omega) (mk x) (by omega)) ?_
  rw [B_mk]
  have hno : ∀ q : byteV x = none, Ev (fun _ : Nat => some (([] : List Int), false)) r := fun q => by rw [h2 q]; exact Ev.now _
  by_cases hd : x.all (isD 10) = true
  · rw [nm_val (by omega) (by omega) hd]
    refine Ev.pos rfl ?_
    by_cases hn : x = []
    · exact Ev.pos (toList_nil.2 hn) (hno (by unfold byteV; rw [if_neg (fun q => q.1 hn)]))
    · refine Ev.neg (fun q => hn (toList_nil.1 q)) ?_
      by_cases h3 : 3 < x.length
      · exact Ev.pos (by omega) (hno (by unfold byteV; rw [if_neg (fun q => by omega)]))
      · have hv := val10_lt hd (by omega)
        refine Ev.neg (by omega) ?_
        rw [mn_id (show valL 10 x 0 ≤ 8589934592 by omega)]
        have hcont : ¬ (1 < x.length ∧ x.head? = some 48) → Ev (fun k => if valL 10 x 0 > 255 then some (([] : List Int), false) else ip_four.l0 k (Go.bits .or .i64 (wrap64 (n * 256)) (valL 10 x 0)) (L.map mk) ((L.map mk).length : Int) (wrap64 ((i : Int) + 1))) r := fun h48 => by
          by_cases h255 : valL 10 x 0 ≤ 255
          · refine Ev.neg (by omega) ?_
            rw [wrap_id (x := n * 256) (by omega) (by omega), or256 n _ h0 (by omega) hv.1 (by omega), wrap_id (x := (i : Int) + 1) (by omega) (by omega), cast_succ]
            exact h _ (by unfold byteV; rw [if_pos ⟨hn, by omega, hd, h48, h255⟩])
          · exact Ev.pos (by omega) (hno (by unfold byteV; rw [if_neg (fun q => h255 q.2.2.2.2)]))
        by_cases hl : 1 < x.length
        · refine Ev.pos (by omega) (Ev.pos (by omega) ?_)
          match x, hn with
          | a :: t, _ =>
            have hb0 : bt (mk (a :: t)) 0 = (a.toNat : Int) := bt_of (s := mk (a :: t)) (i := 0) rfl
            by_cases ha : a = 48
            · subst ha
              exact Ev.pos (by rw [hb0]; rfl) (hno (by unfold byteV; rw [if_neg (fun q => q.2.2.2.1 ⟨hl, rfl⟩)]))
            · exact Ev.neg (fun q => ha ((u8_eq a 48 (by omega)).1 (by rw [← hb0]; exact q))) (hcont (fun q => ha (by simpa using q.2)))
        · exact Ev.neg (by omega) (hcont (fun q => hl q.1))
  · rw [nm_no hd]
    exact Ev.neg (by decide) (hno (by unfold byteV; rw [if_neg (fun q => hd q.2.2.1)]))
theorem u16_w (x : Int) : IntKind.u16.wrap x = x % 65536 := rfl
theorem four_prog (x : List UInt8) (hx : x.length ≤ 1000000000) : Ev (fun k => ip_four.f k (mk x)) (match dotV x with | some v => (v, true) | none => ([], false)) := by
  have hz : (mk x).size = x.length := by rw [size_B, B_mk]
  refine Ev.bnd (Split_ok (mk x) 46 (by omega)) ?_
  rw [B_mk]
  unfold dotV
  by_cases h4 : (spl 46 x).length = 4
  · rw [if_pos h4]
    have hm := fun y (hy : y ∈ spl 46 x) => spl_mem 46 x y hy
    refine Ev.pos (by rw [List.length_map]; omega) ?_
    match hL : spl 46 x, h4 with
    | [a, b, c, d], h4 =>
      rw [hL] at hm
      have e0 : ∀ r : List Int × Bool, Ev (fun k => ip_four.l0 k 0 ([a, b, c, d].map mk) (([a, b, c, d].map mk).length : Int) ((0 : Nat) : Int)) r → Ev (fun k => ip_four.l0 k 0 ([a, b, c, d].map mk) (([a, b, c, d].map mk).length : Int) 0) r := fun r z => z
      apply e0
      refine four_step [a, b, c, d] rfl 0 a rfl (Nat.le_trans (hm a (by simp)) hx) 0 (by omega) (by omega) (fun va ha => ?_) (fun ha => by simp only [bytesV, ha]; rfl)
      have hra := byteV_rng ha
      refine four_step [a, b, c, d] rfl 1 b rfl (Nat.le_trans (hm b (by simp)) hx) _ (by omega) (by omega) (fun vb hb => ?_) (fun hb => by simp only [bytesV, ha, hb]; rfl)
      have hrb := byteV_rng hb
      refine four_step [a, b, c, d] rfl 2 c rfl (Nat.le_trans (hm c (by simp)) hx) _ (by omega) (by omega) (fun vc hc => ?_) (fun hc => by simp only [bytesV, ha, hb, hc]; rfl)
      have hrc := byteV_rng hc
      refine four_step [a, b, c, d] rfl 3 d rfl (Nat.le_trans (hm d (by simp)) hx) _ (by omega) (by omega) (fun vd hd => ?_) (fun hd => by simp only [bytesV, ha, hb, hc, hd]; rfl)
      have hrd := byteV_rng hd
      refine Ev.step (fun _ => ip_four.l0.eq_2 ..) (Ev.neg (by simp) (Ev.tell ?_))
      have e : (([a, b, c, d] : List (List UInt8)).length) = 4 := rfl
      simp only [bytesV, ha, hb, hc, hd]
      show ([IntKind.u16.wrap _, IntKind.u16.wrap _], true) = ([va * 256 + vb, vc * 256 + vd], true)
      rw [u16_w, u16_w]
      congr 3
      · omega
      · congr 1; omega
  · rw [if_neg h4]
    exact Ev.neg (by rw [List.length_map]; omega) (Ev.now _)
theorem list_loop (last : Bool) (L : List (List UInt8)) (hL : L.length ≤ 1000000001) (hs : ∀ x ∈ L, x.length ≤ 1000000000) : ∀ (rest : List (List UInt8)) (i : Nat) (acc : List Int), L.drop i = rest → i ≤ L.length → acc.length ≤ i →
    ∃ e : List Int, e.length ≤ L.length ∧ Ev (fun k => ip_list.l0 k last acc (L.map mk) (L.map mk) ((L.map mk).length : Int) (i : Int)) (match piecesV last rest with | some w => (acc ++ w, true) | none => (e, false))
  | [], i, acc, h, hi, ha => by
    have := drop_nil h
    refine ⟨[], Nat.zero_le _, Ev.step (fun _ => ip_list.l0.eq_2 ..) (Ev.neg (by rw [List.length_map]; omega) (Ev.tell ?_))⟩
    simp [piecesV]
  | x :: r, i, acc, h, hi, ha => by
    obtain ⟨e1, e2, e3⟩ := drop_cons h
    have hxm : x ∈ L := List.mem_of_getElem? e2
    have hsx := hs x hxm
    have hz : (mk x).size = x.length := by rw [size_B, B_mk]
    have hg : (L.map mk)[i]? = some (mk x) := by rw [List.getElem?_map, e2]; rfl
    have hlast : ((i : Int) = wrap64 (((L.map mk).length : Int) - 1)) ↔ r = [] := by
      rw [List.length_map, wrap_id (by omega) (by omega)]
      have hlen : L.length - (i + 1) = r.length := by rw [← e3, List.length_drop]
      constructor
      · intro q; exact List.eq_nil_of_length_eq_zero (by omega)
      · intro q; subst q; rw [List.length_nil] at hlen; omega
    have hhex : ¬ (last = true ∧ r = [] ∧ 46 ∈ x) → ∃ e : List Int, e.length ≤ L.length ∧ Ev (fun k => ip_list.j1 k last acc (L.map mk) (mk x) (L.map mk) ((L.map mk).length : Int) (i : Int) false) (match piecesV last (x :: r) with | some w => (acc ++ w, true) | none => (e, false)) := fun hq => by
      unfold piecesV
      rw [if_neg hq]
      have hstep : ∀ {w : List Int × Bool}, Ev (fun k => (ip_number.f k (mk x) 16).bind fun bt132 => (if bt132.2 = true then (if (mk x).toList = ([] : List UInt8) then (some (([] : List Int), false)) else (if ((mk x).size : Int) > 4 then (some (([] : List Int), false)) else (if acc.length < 70368744177664 then (ip_list.l0 k last (acc ++ [IntKind.u16.wrap (bt132.1)]) (L.map mk) (L.map mk) ((L.map mk).length : Int) (wrap64 ((i : Int) + 1))) else (none)))) else (some (([] : List Int), false)))) w → Ev (fun k => ip_list.j1 k last acc (L.map mk) (mk x) (L.map mk) ((L.map mk).length : Int) (i : Int) false) w := fun z => Ev.step (fun _ => ip_list.j1.eq_2 ..) (Ev.neg (by decide) z)
      by_cases hp : x ≠ [] ∧ x.length ≤ 4 ∧ x.all (isD 16) = true
      · have ev : pieceV x = some (valL 16 x 0) := by unfold pieceV; rw [if_pos hp]
        have hv := val16_lt hp.2.2 hp.2.1
        obtain ⟨e, he, ih⟩ := list_loop last L hL hs r (i + 1) (acc ++ [valL 16 x 0]) e3 (by omega) (by rw [List.length_append]; simp; omega)
        refine ⟨e, he, hstep (Ev.bind (number_prog 16 (by omega) (mk x) (by omega)) ?_)⟩
        rw [B_mk, nm_val (by omega) (by omega) hp.2.2, mn_id (by omega)]
        refine Ev.pos rfl (Ev.neg (fun q => hp.1 (toList_nil.1 q)) (Ev.neg (by omega) (Ev.pos (by omega) ?_)))
        rw [u16_w, Int.emod_eq_of_lt hv.1 hv.2, wrap_id (x := (i : Int) + 1) (by omega) (by omega), cast_succ, ev, Option.bind_some]
        cases hr : piecesV last r with
        | none => rw [hr] at ih; exact ih
        | some u =>
          rw [hr] at ih
          simp only [Option.map_some, List.append_assoc, List.cons_append, List.nil_append] at ih ⊢
          exact ih
      · have ev : pieceV x = none := by unfold pieceV; rw [if_neg hp]
        rw [ev, Option.bind_none]
        refine ⟨[], Nat.zero_le _, hstep (Ev.bind (number_prog 16 (by omega) (mk x) (by omega)) ?_)⟩
        rw [B_mk]
        by_cases hd : x.all (isD 16) = true
        · rw [nm_val (by omega) (by omega) hd]
          refine Ev.pos rfl ?_
          by_cases hn : x = []
          · exact Ev.pos (toList_nil.2 hn) (Ev.now _)
          · refine Ev.neg (fun q => hn (toList_nil.1 q)) (Ev.pos ?_ (Ev.now _))
            have : ¬ x.length ≤ 4 := fun q => hp ⟨hn, q, hd⟩
            omega
        · rw [nm_no hd]
          exact Ev.neg (by decide) (Ev.now _)
    have hhead : ∀ {w : List Int × Bool}, Ev (fun k => (if last = true then (if (i : Int) = (wrap64 (((L.map mk).length : Int) - 1)) then ((strings_IndexByte.f (mk x) 46).bind fun t124 => (ip_list.j1 k last acc (L.map mk) (mk x) (L.map mk) ((L.map mk).length : Int) (i : Int) (decide (t124 ≥ 0)))) else (ip_list.j1 k last acc (L.map mk) (mk x) (L.map mk) ((L.map mk).length : Int) (i : Int) false)) else (ip_list.j1 k last acc (L.map mk) (mk x) (L.map mk) ((L.map mk).length : Int) (i : Int) false))) w → Ev (fun k => ip_list.l0 k last acc (L.map mk) (L.map mk) ((L.map mk).length : Int) (i : Int)) w := fun z => by
      refine Ev.step (fun _ => ip_list.l0.eq_2 ..) (Ev.pos (by rw [List.length_map]; omega) (Ev.pos (by omega) (Ev.pos (by rw [List.length_map]; omega) ?_)))
      rw [rdOf_of hg]
      exact z
    by_cases hl : last = true
    · by_cases hr : r = []
      · have hib : strings_IndexByte.f (mk x) 46 = some (Lib.indexByte x 46) := rfl
        by_cases h46 : 46 ∈ x
        · have hc := (idx_mem 46 x).2 h46
          have hfour := four_prog x hsx
          unfold piecesV
          rw [if_pos ⟨hl, hr, h46⟩]
          refine ⟨acc, by omega, hhead (Ev.pos hl (Ev.pos (hlast.2 hr) (Ev.bnd hib ?_)))⟩
          rw [decide_eq_true (show Lib.indexByte x 46 ≥ 0 from hc)]
          refine Ev.step (fun _ => ip_list.j1.eq_2 ..) (Ev.pos rfl (Ev.bind hfour ?_))
          cases hv : dotV x with
          | none =>
            refine Ev.pos (by simp only [List.length_nil]; omega) (Ev.tell ?_)
            simp
          | some u =>
            have hu := (dotV_rng hv).1
            exact Ev.pos (by simp only [hu]; omega) (Ev.now _)
        · have hc : ¬ Lib.indexByte x 46 ≥ 0 := fun q => h46 ((idx_mem 46 x).1 q)
          obtain ⟨e, he, z⟩ := hhex (fun q => h46 q.2.2)
          refine ⟨e, he, hhead (Ev.pos hl (Ev.pos (hlast.2 hr) (Ev.bnd hib ?_)))⟩
          rw [decide_eq_false hc]
          exact z
      · obtain ⟨e, he, z⟩ := hhex (fun q => hr q.2.1)
        exact ⟨e, he, hhead (Ev.pos hl (Ev.neg (fun q => hr (hlast.1 q)) z))⟩
    · obtain ⟨e, he, z⟩ := hhex (fun q => hl q.1)
      exact ⟨e, he, hhead (Ev.neg hl z)⟩
theorem list_prog (last : Bool) (s : ByteArray) (hs : s.size ≤ 1000000000) : ∃ e : List Int, e.length ≤ s.size + 1 ∧ Ev (fun k => ip_list.f k s last) (match PL last (B s) with | some w => (w, true) | none => (e, false)) := by
  have hz := size_B s
  have hl := spl_len 58 (B s)
  unfold PL
  by_cases h0 : B s = []
  · rw [if_pos h0]
    exact ⟨[], Nat.zero_le _, Ev.pos (toList_nil.2 h0) (Ev.now _)⟩
  · rw [if_neg h0]
    obtain ⟨e, he, z⟩ := list_loop last (spl 58 (B s)) (by omega) (fun x hx => by have := spl_mem 58 _ _ hx; omega) (spl 58 (B s)) 0 [] rfl (Nat.zero_le _) (Nat.le_refl _)
    exact ⟨e, by omega, Ev.neg (fun q => h0 (toList_nil.1 q)) (Ev.bnd (Split_ok s 58 (by omega)) z)⟩
theorem cut_colons : ∀ l : List UInt8, Lib.index l [58, 58] = (match colons l with | some n => (n : Int) | none => -1)
  | [] => rfl
  | a :: r => by
    have ih := cut_colons r
    unfold Lib.index colons
    have hp : ([58, 58] : List UInt8).isPrefixOf (a :: r) = true ↔ a = 58 ∧ r.head? = some 58 := by
      cases r with
      | nil =>
        constructor
        · intro q; simp only [List.isPrefixOf, Bool.and_false] at q; cases q
        · intro q; cases q.2
      | cons b t =>
        constructor
        · intro q
          simp only [List.isPrefixOf, Bool.and_true, Bool.and_eq_true] at q
          exact ⟨(eq_of_beq q.1).symm, by rw [List.head?_cons, ← eq_of_beq q.2]⟩
        · intro q
          obtain ⟨q1, q2⟩ := q
          subst q1
          obtain rfl : b = 58 := Option.some.inj q2
          rfl
    by_cases h : a = 58 ∧ r.head? = some 58
    · rw [if_pos (hp.2 h), if_pos h]; rfl
    · rw [if_neg (fun q => h (hp.1 q)), if_neg h, ih]
      cases colons r with
      | none => rfl
      | some n =>
        show (if ((n : Int) == -1) = true then _ else _) = _
        rw [if_neg (fun q => by have := eq_of_beq q; omega)]; rfl
theorem cut_some {l : List UInt8} {n : Nat} (h : colons l = some n) : Lib.cut l [58, 58] = (l.take n, l.drop (n + 2), true) := by
  unfold Lib.cut
  rw [cut_colons, h]
  show (if (0 : Int) ≤ (n : Int) then _ else _) = _
  rw [if_pos (by omega), Int.toNat_natCast]
  rfl
theorem cut_none {l : List UInt8} (h : colons l = none) : Lib.cut l [58, 58] = (l, [], false) := by
  unfold Lib.cut
  rw [cut_colons, h]
  rfl
/-- Eight pieces of a text. -/
def P6a : Option (List Int) → List Int × Int
  | some v => if v.length = 8 then (v, 0) else (zero8, 4)
  | none => (zero8, 4)
def P6b : Option (List Int) → Option (List Int) → List Int × Int
  | some a, some b => if a.length + b.length ≤ 7 then (a ++ (List.replicate (8 - a.length - b.length) 0 ++ b), 0) else (zero8, 4)
  | some _, none => (zero8, 4)
  | none, _ => (zero8, 4)
def P6 (l : List UInt8) : List Int × Int :=
  if 4000 < l.length then (zero8, 11) else match colons l with
  | none => P6a (PL true l)
  | some n => P6b (PL false (l.take n)) (PL true (l.drop (n + 2)))
theorem P6a_some (v : List Int) : P6a (some v) = if v.length = 8 then (v, 0) else (zero8, 4) := rfl
theorem P6b_some (a b : List Int) : P6b (some a) (some b) = if a.length + b.length ≤ 7 then (a ++ (List.replicate (8 - a.length - b.length) 0 ++ b), 0) else (zero8, 4) := rfl
theorem zero8_len' : zero8.length = 8 := rfl
theorem P6a_len (p : Option (List Int)) : (P6a p).1.length = 8 := by
  cases p with
  | none => rfl
  | some v =>
    rw [P6a_some]
    split
    · rename_i h; exact h
    · rfl
theorem P6b_len (p q : Option (List Int)) : (P6b p q).1.length = 8 := by
  cases p with
  | none => rfl
  | some a =>
    cases q with
    | none => rfl
    | some b =>
      rw [P6b_some]
      split
      · rw [List.length_append, List.length_append, List.length_replicate]; omega
      · rfl
theorem res_no {short ok fine : Bool} {l m : List Int} (h : ip_Parse6.bad short ok fine l m = true) : ip_Parse6.res short ok fine l m = (zero8, 4) := by unfold ip_Parse6.res; rw [if_pos h]
theorem splice_all (v : List Int) (h : v.length = 8) : splice zero8 0 v = v := by
  unfold splice
  rw [h, List.take_zero, List.nil_append, List.drop_eq_nil_of_le (by rw [zero8_len]; omega), List.append_nil]
theorem splice_end (v : List Int) (h : v.length = 8) : splice v (8 - ([] : List Int).length) [] = v := by
  unfold splice
  rw [List.length_nil, List.nil_append, Nat.add_zero, List.take_append_drop]
theorem splice_ab (a b : List Int) (h : a.length + b.length ≤ 7) : splice (splice zero8 0 a) (8 - b.length) b = a ++ (List.replicate (8 - a.length - b.length) 0 ++ b) := by
  have hz : zero8 = List.replicate 8 0 := rfl
  unfold splice
  rw [List.take_zero, List.nil_append, Nat.zero_add, hz, List.drop_replicate, List.take_append, List.take_of_length_le (by omega), List.take_replicate, List.drop_append, List.drop_of_length_le (by omega), List.drop_replicate]
  rw [show 8 - a.length - (8 - b.length + b.length - a.length) = 0 by omega, show min (8 - b.length - a.length) (8 - a.length) = 8 - a.length - b.length by omega]
  simp
theorem P6_len (l : List UInt8) : (P6 l).1.length = 8 := by
  unfold P6
  split
  · rfl
  · split
    · exact P6a_len _
    · exact P6b_len _ _
theorem PL_nil (b : Bool) : PL b [] = some [] := rfl
theorem cutf (s : ByteArray) (hs : s.size ≤ 4000) : strings_Cut.f s (⟨#[58, 58]⟩ : ByteArray) = some (mk (Lib.cut (B s) [58, 58]).1, mk (Lib.cut (B s) [58, 58]).2.1, (Lib.cut (B s) [58, 58]).2.2) := by
  unfold strings_Cut.f
  rw [if_pos (by omega)]
  rfl
theorem Parse6_prog (s : ByteArray) (hs : s.size ≤ 1000000000) : Ev (fun k => ip_Parse6.g k s) (P6 (B s)) := by
  have hz := size_B s
  unfold P6
  by_cases h0 : 4000 < (B s).length
  · rw [if_pos h0]
    exact Ev.neg (by omega) (Ev.now _)
  · rw [if_neg h0]
    refine Ev.pos (by omega) (Ev.bnd (cutf s (by omega)) ?_)
    cases hc : colons (B s) with
    | none =>
      rw [cut_none hc]
      show Ev _ (P6a (PL true (B s)))
      obtain ⟨e, he, z⟩ := list_prog true (mk (B s)) (by rw [size_B, B_mk]; omega)
      rw [B_mk] at z
      have z2 : Ev (fun k => ip_list.f k (mk []) true) (([] : List Int), true) := Ev.pos (toList_nil.2 rfl) (Ev.now _)
      have he' : e.length ≤ 4001 := by rw [size_B, B_mk] at he; omega
      cases hp : PL true (B s) with
      | none =>
        rw [hp] at z
        refine Ev.bind z (Ev.bind z2 (Ev.pos ⟨by simp only; omega, by simp, fun _ => by simp⟩ (Ev.tell ?_)))
        exact res_no rfl
      | some v =>
        rw [hp] at z
        have hv := (PL_rng hp).1
        refine Ev.bind z (Ev.bind z2 (Ev.pos ⟨by simp only; omega, by simp, fun _ => by simp⟩ (Ev.tell ?_)))
        show ip_Parse6.res false true true v [] = _
        unfold ip_Parse6.res ip_Parse6.bad
        rw [P6a_some]
        by_cases h8 : v.length = 8
        · rw [if_neg (by simp [h8]), splice_all v h8, splice_end v h8]
          rw [if_pos h8]
        · rw [if_pos (by simp [h8]), if_neg h8]
    | some n =>
      rw [cut_some hc]
      show Ev _ (P6b (PL false ((B s).take n)) (PL true ((B s).drop (n + 2))))
      have hn := colons_lt _ _ hc
      obtain ⟨e, he, z⟩ := list_prog false (mk ((B s).take n)) (by rw [size_B, B_mk, List.length_take]; omega)
      obtain ⟨e2, he2, z2⟩ := list_prog true (mk ((B s).drop (n + 2))) (by rw [size_B, B_mk, List.length_drop]; omega)
      rw [B_mk] at z z2
      have he' : e.length ≤ 4001 := by rw [size_B, B_mk, List.length_take] at he; omega
      have he2' : e2.length ≤ 4001 := by rw [size_B, B_mk, List.length_drop] at he2; omega
      cases hp : PL false ((B s).take n) with
      | none =>
        rw [hp] at z
        cases hp2 : PL true ((B s).drop (n + 2)) with
        | none =>
          rw [hp2] at z2
          refine Ev.bind z (Ev.bind z2 (Ev.pos ⟨by simp only; omega, by simp only; omega, fun q => by simp [ip_Parse6.bad] at q⟩ (Ev.tell ?_)))
          exact res_no rfl
        | some b =>
          rw [hp2] at z2
          have hb := (PL_rng hp2).1
          rw [List.length_drop] at hb
          refine Ev.bind z (Ev.bind z2 (Ev.pos ⟨by simp only; omega, by simp only; omega, fun q => by simp [ip_Parse6.bad] at q⟩ (Ev.tell ?_)))
          exact res_no rfl
      | some a =>
        rw [hp] at z
        have ha := (PL_rng hp).1
        rw [List.length_take] at ha
        cases hp2 : PL true ((B s).drop (n + 2)) with
        | none =>
          rw [hp2] at z2
          refine Ev.bind z (Ev.bind z2 (Ev.pos ⟨by simp only; omega, by simp only; omega, fun q => by simp [ip_Parse6.bad] at q⟩ (Ev.tell ?_)))
          exact res_no rfl
        | some b =>
          rw [hp2] at z2
          have hb := (PL_rng hp2).1
          rw [List.length_drop] at hb
          refine Ev.bind z (Ev.bind z2 (Ev.pos ⟨by simp only; omega, by simp only; omega, fun q => by simp [ip_Parse6.bad] at q; simp only; omega⟩ (Ev.tell ?_)))
          show ip_Parse6.res true true true a b = _
          unfold ip_Parse6.res ip_Parse6.bad
          rw [P6b_some]
          by_cases h7 : a.length + b.length ≤ 7
          · rw [if_neg (by simp; omega), splice_ab a b h7, if_pos h7]
          · rw [if_pos (by simp; omega), if_neg h7]
theorem hex_false {x : List UInt8} (h : ¬ (1 < x.length ∧ x.head? = some 48)) : hexP x = false := by
  match x, h with
  | [], _ => rfl
  | [a], _ => rfl
  | a :: c :: t, h =>
    have ha : ¬ a = 48 := fun q => h ⟨by simp, by rw [q]; rfl⟩
    show (a == 48 && (c == 120 || c == 88)) = false
    rw [beq_eq_false_iff_ne.2 ha, Bool.false_and]
theorem j3_no (x1 : Bool) (L : List ByteArray) (acc : List Int) (i : Int) (y : List ByteArray) (vs : List Int) (j : Int) {r : List Int × Bool} (h : r = ([], false)) : Ev (fun k => sprref7_pieces.j3 k x1 L acc i y vs j true) r := by
  rw [h]; exact Ev.step (fun _ => sprref7_pieces.j3.eq_2 ..) (Ev.pos rfl (Ev.now _))
theorem rfour_step (x1 : Bool) (L : List ByteArray) (acc : List Int) (p : Int) (Y : List (List UInt8)) (hY : Y.length = 4) (i : Nat) (x : List UInt8) (hx : Y[i]? = some x) (hsx : x.length ≤ 1000000000) (vs : List Int) (hvs : vs.length ≤ 4) {r : List Int × Bool}
    (h : ∀ v, byteV x = some v → Ev (fun k => sprref7_pieces.l1 k x1 L acc p (Y.map mk) (vs ++ [v]) ((i + 1 : Nat) : Int)) r) (h2 : byteV x = none → r = ([], false)) : Ev (fun k => sprref7_pieces.l1 k x1 L acc p (Y.map mk) vs (i : Int)) r := by
  have hi := (List.getElem?_eq_some_iff.1 hx).1
  have hg : (Y.map mk)[i]? = some (mk x) := by rw [List.getElem?_map, hx]; rfl
  have hz : (mk x).size = x.length := by rw [size_B, B_mk]
  refine Ev.step (fun _ => sprref7_pieces.l1.eq_2 ..) (Ev.pos (by omega) (Ev.pos (by omega) (Ev.pos (by rw [List.length_map]; omega) ?_)))
  rw [rdOf_of hg]
  by_cases hn : x = []
  · exact Ev.pos (toList_nil.2 hn) (j3_no _ _ _ _ _ _ _ (h2 (by unfold byteV; rw [if_neg (fun q => q.1 hn)])))
  · refine Ev.neg (fun q => hn (toList_nil.1 q)) ?_
    by_cases h3 : 3 < x.length
    · exact Ev.pos (by omega) (j3_no _ _ _ _ _ _ _ (h2 (by unfold byteV; rw [if_neg (fun q => by omega)])))
    · refine Ev.neg (by omega) (Ev.bind (digits_ref 10 (mk x) (by omega)) ?_)
      rw [B_mk]
      by_cases hd : x.all (isD 10) = true
      · rw [hd]
        refine Ev.pos rfl ?_
        have hv := val10_lt hd (by omega)
        have hcont : ¬ (1 < x.length ∧ x.head? = some 48) → Ev (fun k => sprref7_pieces.j3 k x1 L acc p (Y.map mk) vs (i : Int) false) r := fun h48 => by
          refine Ev.step (fun _ => sprref7_pieces.j3.eq_2 ..) (Ev.neg (by decide) (Ev.pos (by omega) (Ev.pos (by rw [List.length_map]; omega) ?_)))
          rw [rdOf_of hg]
          refine Ev.bind (number_ref (mk x) (by omega)) ?_
          have ep : partV 1099511627776 x = (valL 10 x 0, true) := by
            unfold partV
            rw [if_neg hn, if_neg (by rw [hex_false h48]; decide), if_neg (fun q => h48 ⟨q.2, q.1⟩), nm_val (by omega) (by omega) hd, mn_id (by omega)]
          rw [B_mk, ep]
          by_cases h255 : valL 10 x 0 ≤ 255
          · refine Ev.neg (by simp only; omega) (Ev.pos (by omega) ?_)
            rw [wrap_id (x := (i : Int) + 1) (by omega) (by omega), cast_succ]
            exact h _ (by unfold byteV; rw [if_pos ⟨hn, by omega, hd, h48, h255⟩])
          · rw [h2 (by unfold byteV; rw [if_neg (fun q => h255 q.2.2.2.2)])]
            exact Ev.pos (by simp only; omega) (Ev.now _)
        by_cases hl : 1 < x.length
        · refine Ev.pos (by omega) (Ev.pos (by omega) ?_)
          match x, hn with
          | a :: t, _ =>
            have hb0 : bt (mk (a :: t)) 0 = (a.toNat : Int) := bt_of (s := mk (a :: t)) (i := 0) rfl
            rw [hb0]
            by_cases ha : a = 48
            · subst ha
              rw [show (((48 : UInt8).toNat : Int) == 48) = true from rfl]
              exact j3_no _ _ _ _ _ _ _ (h2 (by unfold byteV; rw [if_neg (fun q => q.2.2.2.1 ⟨hl, rfl⟩)]))
            · rw [beq_eq_false_iff_ne.2 (show (a.toNat : Int) ≠ 48 from fun q => ha ((u8_eq a 48 (by omega)).1 q))]
              exact hcont (fun q => ha (by simpa using q.2))
        · exact Ev.neg (by omega) (hcont (fun q => hl q.1))
      · rw [show x.all (isD 10) = false by simpa using hd]
        exact Ev.neg (by decide) (j3_no _ _ _ _ _ _ _ (h2 (by unfold byteV; rw [if_neg (fun q => hd q.2.2.1)])))
theorem l2_step (x1 : Bool) (L : List ByteArray) (acc : List Int) (i : Nat) (x : List UInt8) (hg : L[i]? = some (mk x)) (hx : x.length ≤ 4) (n : Int) (h0 : 0 ≤ n) (h1 : n < 1000000000) (j : Nat) (c : UInt8) (hc : x[j]? = some c) (hd : isD 16 c = true) {r : List Int × Bool} (h : Ev (fun k => sprref7_pieces.l2 k x1 L acc (i : Int) (n * 16 + dv c) ((j + 1 : Nat) : Int)) r) : Ev (fun k => sprref7_pieces.l2 k x1 L acc (i : Int) n (j : Int)) r := by
  have hi := (List.getElem?_eq_some_iff.1 hg).1
  have hj := (List.getElem?_eq_some_iff.1 hc).1
  have hz : (mk x).size = x.length := by rw [size_B, B_mk]
  have hD := isD_iff.1 hd
  refine Ev.step (fun _ => sprref7_pieces.l2.eq_2 ..) (Ev.pos (by omega) (Ev.pos (by omega) ?_))
  rw [rdOf_of hg]
  refine Ev.pos (by omega) (Ev.pos (by omega) (Ev.bind (digit_ev c (bt_of (s := mk x) hc)) ?_))
  rw [wrap_id (x := n * 16) (by omega) (by omega), or16 n _ h0 (by omega) hD.1 hD.2, wrap_id (x := (j : Int) + 1) (by omega) (by omega), cast_succ]
  exact h
theorem l2_all (x1 : Bool) (L : List ByteArray) (acc : List Int) (ha : acc.length ≤ 1000000002) (i : Nat) (hi2 : i ≤ 1000000002) (x : List UInt8) (hg : L[i]? = some (mk x)) (hx : x.length ≤ 4) (hd : x.all (isD 16) = true) {r : List Int × Bool} (h : Ev (fun k => sprref7_pieces.l0 k x1 L (acc ++ [valL 16 x 0]) ((i + 1 : Nat) : Int)) r) : Ev (fun k => sprref7_pieces.l2 k x1 L acc (i : Int) 0 0) r := by
  have hi := (List.getElem?_eq_some_iff.1 hg).1
  have hz : (mk x).size = x.length := by rw [size_B, B_mk]
  have hend : Ev (fun k => sprref7_pieces.l2 k x1 L acc (i : Int) (valL 16 x 0) (x.length : Int)) r := by
    refine Ev.step (fun _ => sprref7_pieces.l2.eq_2 ..) (Ev.pos (by omega) (Ev.pos (by omega) ?_))
    rw [rdOf_of hg]
    refine Ev.neg (by omega) (Ev.pos (by omega) ?_)
    rw [wrap_id (x := (i : Int) + 1) (by omega) (by omega), cast_succ]
    exact h
  rw [List.all_eq_true] at hd
  have hD : ∀ c ∈ x, 0 ≤ dv c ∧ dv c < 16 := fun c hc => isD_iff.1 (hd c hc)
  have e0 : ∀ n : Int, Ev (fun k => sprref7_pieces.l2 k x1 L acc (i : Int) n ((0 : Nat) : Int)) r → Ev (fun k => sprref7_pieces.l2 k x1 L acc (i : Int) n 0) r := fun n z => z
  match x, hx with
  | [], _ => exact e0 0 hend
  | [a], hx =>
    have := hD a (by simp)
    exact e0 0 (l2_step x1 L acc i _ hg hx 0 (by omega) (by omega) 0 a rfl (hd a (by simp)) hend)
  | [a, b], hx =>
    have := hD a (by simp); have := hD b (by simp)
    exact e0 0 (l2_step x1 L acc i _ hg hx 0 (by omega) (by omega) 0 a rfl (hd a (by simp)) (l2_step x1 L acc i _ hg hx _ (by omega) (by omega) 1 b rfl (hd b (by simp)) hend))
  | [a, b, c], hx =>
    have := hD a (by simp); have := hD b (by simp); have := hD c (by simp)
    exact e0 0 (l2_step x1 L acc i _ hg hx 0 (by omega) (by omega) 0 a rfl (hd a (by simp)) (l2_step x1 L acc i _ hg hx _ (by omega) (by omega) 1 b rfl (hd b (by simp)) (l2_step x1 L acc i _ hg hx _ (by omega) (by omega) 2 c rfl (hd c (by simp)) hend)))
  | [a, b, c, d], hx =>
    have := hD a (by simp); have := hD b (by simp); have := hD c (by simp); have := hD d (by simp)
    exact e0 0 (l2_step x1 L acc i _ hg hx 0 (by omega) (by omega) 0 a rfl (hd a (by simp)) (l2_step x1 L acc i _ hg hx _ (by omega) (by omega) 1 b rfl (hd b (by simp)) (l2_step x1 L acc i _ hg hx _ (by omega) (by omega) 2 c rfl (hd c (by simp)) (l2_step x1 L acc i _ hg hx _ (by omega) (by omega) 3 d rfl (hd d (by simp)) hend))))
theorem pieces_loop (last : Bool) (L : List (List UInt8)) (hL : L.length ≤ 1000000001) (hs : ∀ x ∈ L, x.length ≤ 1000000000) : ∀ (rest : List (List UInt8)) (i : Nat) (acc : List Int), L.drop i = rest → i ≤ L.length → acc.length ≤ i →
    Ev (fun k => sprref7_pieces.l0 k last (L.map mk) acc (i : Int)) (match piecesV last rest with | some w => (acc ++ w, true) | none => ([], false))
  | [], i, acc, h, hi, ha => by
    have := drop_nil h
    refine Ev.step (fun _ => sprref7_pieces.l0.eq_2 ..) (Ev.neg (by rw [List.length_map]; omega) (Ev.tell ?_))
    simp [piecesV]
  | x :: r, i, acc, h, hi, ha => by
    obtain ⟨e1, e2, e3⟩ := drop_cons h
    have hxm : x ∈ L := List.mem_of_getElem? e2
    have hsx := hs x hxm
    have hz : (mk x).size = x.length := by rw [size_B, B_mk]
    have hg : (L.map mk)[i]? = some (mk x) := by rw [List.getElem?_map, e2]; rfl
    have hlast : ((i : Int) = wrap64 (((L.map mk).length : Int) - 1)) ↔ r = [] := by
      rw [List.length_map, wrap_id (by omega) (by omega)]
      have hlen : L.length - (i + 1) = r.length := by rw [← e3, List.length_drop]
      constructor
      · intro q; exact List.eq_nil_of_length_eq_zero (by omega)
      · intro q; subst q; rw [List.length_nil] at hlen; omega
    have hhex : ¬ (last = true ∧ r = [] ∧ 46 ∈ x) → Ev (fun k => sprref7_pieces.j1 k last (L.map mk) acc (i : Int) false) (match piecesV last (x :: r) with | some w => (acc ++ w, true) | none => ([], false)) := fun hq => by
      unfold piecesV
      rw [if_neg hq]
      refine Ev.step (fun _ => sprref7_pieces.j1.eq_2 ..) (Ev.neg (by decide) (Ev.pos (by omega) (Ev.pos (by rw [List.length_map]; omega) ?_)))
      rw [rdOf_of hg]
      have hbad : ∀ {w : List Int × Bool}, w = ([], false) → Ev (fun k => sprref7_pieces.j4 k last (L.map mk) acc (i : Int) true) w := fun hw => by
        rw [hw]; exact Ev.step (fun _ => sprref7_pieces.j4.eq_2 ..) (Ev.pos rfl (Ev.now _))
      by_cases hp : x ≠ [] ∧ x.length ≤ 4 ∧ x.all (isD 16) = true
      · have ev : pieceV x = some (valL 16 x 0) := by unfold pieceV; rw [if_pos hp]
        have ih := pieces_loop last L hL hs r (i + 1) (acc ++ [valL 16 x 0]) e3 (by omega) (by rw [List.length_append]; simp; omega)
        refine Ev.neg (fun q => hp.1 (toList_nil.1 q)) (Ev.neg (by omega) (Ev.bind (digits_ref 16 (mk x) (by omega)) ?_))
        rw [B_mk, hp.2.2]
        refine Ev.step (fun _ => sprref7_pieces.j4.eq_2 ..) (Ev.neg (by decide) (l2_all last (L.map mk) acc (by omega) i (by omega) x hg hp.2.1 hp.2.2 ?_))
        rw [ev, Option.bind_some]
        cases hr : piecesV last r with
        | none => rw [hr] at ih; exact ih
        | some u =>
          rw [hr] at ih
          simp only [Option.map_some, List.append_assoc, List.cons_append, List.nil_append] at ih ⊢
          exact ih
      · have ev : pieceV x = none := by unfold pieceV; rw [if_neg hp]
        rw [ev, Option.bind_none]
        by_cases hn : x = []
        · exact Ev.pos (toList_nil.2 hn) (hbad rfl)
        · refine Ev.neg (fun q => hn (toList_nil.1 q)) ?_
          by_cases h4 : x.length ≤ 4
          · refine Ev.neg (by omega) (Ev.bind (digits_ref 16 (mk x) (by omega)) ?_)
            rw [B_mk, show x.all (isD 16) = false by
              cases q : x.all (isD 16) with
              | false => rfl
              | true => exact absurd ⟨hn, h4, q⟩ hp]
            exact hbad rfl
          · exact Ev.pos (by omega) (hbad rfl)
    refine Ev.step (fun _ => sprref7_pieces.l0.eq_2 ..) (Ev.pos (by rw [List.length_map]; omega) ?_)
    by_cases hl : last = true
    · by_cases hr : r = []
      · refine Ev.pos hl (Ev.pos (hlast.2 hr) (Ev.pos (by omega) ?_))
        rw [rdOf_of hg]
        refine Ev.bind (SplitA_ok 46 (mk x) (by omega)) ?_
        rw [B_mk, List.length_map]
        by_cases h46 : 46 ∈ x
        · have h1 := (spl_two 46 x).2 h46
          rw [decide_eq_true (show ((spl 46 x).length : Int) > 1 by omega)]
          unfold piecesV
          rw [if_pos ⟨hl, hr, h46⟩]
          refine Ev.step (fun _ => sprref7_pieces.j1.eq_2 ..) (Ev.pos rfl (Ev.pos (by omega) (Ev.pos (by rw [List.length_map]; omega) ?_)))
          rw [rdOf_of hg]
          refine Ev.bind (SplitA_ok 46 (mk x) (by omega)) ?_
          rw [B_mk, List.length_map]
          unfold dotV
          by_cases h4 : (spl 46 x).length = 4
          · rw [if_pos h4]
            refine Ev.pos (by omega) ?_
            have hm := fun y (hy : y ∈ spl 46 x) => spl_mem 46 x y hy
            match hL4 : spl 46 x, h4 with
            | [a, b, c, d], h4 =>
              rw [hL4] at hm
              have e0 : ∀ w : List Int × Bool, Ev (fun k => sprref7_pieces.l1 k last (L.map mk) acc (i : Int) ([a, b, c, d].map mk) [] ((0 : Nat) : Int)) w → Ev (fun k => sprref7_pieces.l1 k last (L.map mk) acc (i : Int) ([a, b, c, d].map mk) [] 0) w := fun w z => z
              apply e0
              refine rfour_step last (L.map mk) acc (i : Int) [a, b, c, d] rfl 0 a rfl (Nat.le_trans (hm a (by simp)) hsx) [] (by simp) (fun va hva => ?_) (fun hva => by simp only [bytesV, hva]; rfl)
              have hra := byteV_rng hva
              refine rfour_step last (L.map mk) acc (i : Int) [a, b, c, d] rfl 1 b rfl (Nat.le_trans (hm b (by simp)) hsx) _ (by simp) (fun vb hvb => ?_) (fun hvb => by simp only [bytesV, hva, hvb]; rfl)
              have hrb := byteV_rng hvb
              refine rfour_step last (L.map mk) acc (i : Int) [a, b, c, d] rfl 2 c rfl (Nat.le_trans (hm c (by simp)) hsx) _ (by simp) (fun vc hvc => ?_) (fun hvc => by simp only [bytesV, hva, hvb, hvc]; rfl)
              have hrc := byteV_rng hvc
              refine rfour_step last (L.map mk) acc (i : Int) [a, b, c, d] rfl 3 d rfl (Nat.le_trans (hm d (by simp)) hsx) _ (by simp) (fun vd hvd => ?_) (fun hvd => by simp only [bytesV, hva, hvb, hvc, hvd]; rfl)
              have hrd := byteV_rng hvd
              have hlen : L.length - (i + 1) = r.length := by rw [← e3, List.length_drop]
              subst hr
              rw [List.length_nil] at hlen
              refine Ev.step (fun _ => sprref7_pieces.l1.eq_2 ..) (Ev.neg (by simp) (Ev.pos (by simp) (Ev.pos (by simp) (Ev.pos (by simp) (Ev.pos (by simp) ?_)))))
              have ev : (bytesV [a, b, c, d]).bind dotL = some [va * 256 + vb, vc * 256 + vd] := by simp only [bytesV, hva, hvb, hvc, hvd]; rfl
              rw [ev]
              refine Ev.bnd (a := [va * 256 + vb, vc * 256 + vd]) ?_ ?_
              · show some [Go.bits .or .i64 (wrap64 (va * 256)) vb, Go.bits .or .i64 (wrap64 (vc * 256)) vd] = _
                rw [wrap_id (x := va * 256) (by omega) (by omega), wrap_id (x := vc * 256) (by omega) (by omega), or256 va vb (by omega) (by omega) (by omega) (by omega), or256 vc vd (by omega) (by omega) (by omega) (by omega)]
              · refine Ev.pos (by simp only [List.length_cons, List.length_nil]; omega) (Ev.step (fun _ => sprref7_pieces.l0.eq_2 ..) (Ev.neg ?_ (Ev.now _)))
                rw [List.length_map, wrap_id (x := (i : Int) + 1) (by omega) (by omega)]
                omega
          · rw [if_neg h4]
            exact Ev.neg (by omega) (Ev.now _)
        · have h1 : ¬ 1 < (spl 46 x).length := fun q => h46 ((spl_two 46 x).1 q)
          rw [decide_eq_false (show ¬ ((spl 46 x).length : Int) > 1 by omega)]
          exact hhex (fun q => h46 q.2.2)
      · exact Ev.pos hl (Ev.neg (fun q => hr (hlast.1 q)) (hhex (fun q => hr q.2.1)))
    · exact Ev.neg hl (hhex (fun q => hl q.1))
theorem pieces_ref (last : Bool) (s : ByteArray) (hs : s.size ≤ 1000000000) : Ev (fun k => sprref7_pieces.f k s last) (match PL last (B s) with | some w => (w, true) | none => ([], false)) := by
  have hz := size_B s
  have hl := spl_len 58 (B s)
  unfold PL
  by_cases h0 : B s = []
  · rw [if_pos h0]
    exact Ev.pos (toList_nil.2 h0) (Ev.now _)
  · rw [if_neg h0]
    exact Ev.neg (fun q => h0 (toList_nil.1 q)) (Ev.bind (SplitA_ok 58 s hs) (pieces_loop last (spl 58 (B s)) (by omega) (fun x hx => by have := spl_mem 58 _ _ hx; omega) (spl 58 (B s)) 0 [] rfl (Nat.zero_le _) (Nat.le_refl _)))
theorem wr_id {v : List Int} (h : ∀ x ∈ v, 0 ≤ x ∧ x < 65536) : v.map wr16 = v := by
  conv => rhs; rw [← List.map_id v]
  apply List.map_congr_left
  intro x hx
  have := h x hx
  show IntKind.u16.wrap x = x
  rw [u16_w, Int.emod_eq_of_lt this.1 this.2]
theorem Parse6_ref (s : ByteArray) (hs : s.size ≤ 1000000000) : Ev (fun k => sprref7_Parse6.g k s) (P6 (B s)) := by
  have hz := size_B s
  unfold P6
  by_cases h0 : 4000 < (B s).length
  · rw [if_pos h0]
    exact Ev.neg (by omega) (Ev.now _)
  · rw [if_neg h0]
    refine Ev.pos (by omega) ?_
    have hcs : colons s.data.toList = colons (B s) := rfl
    rw [hcs]
    cases hc : colons (B s) with
    | none =>
      have z := pieces_ref true s hs
      refine Ev.bind z ?_
      show Ev _ (P6a (PL true (B s)))
      cases hp : PL true (B s) with
      | none => exact Ev.pos (by simp) (Ev.now _)
      | some v =>
        have hv := PL_rng hp
        refine Ev.pos (by have := hv.1; simp only; omega) (Ev.tell ?_)
        show ref_res1 true v = _
        unfold ref_res1 ref_bad1
        rw [P6a_some]
        rw [wr_id hv.2]
        by_cases h8 : v.length = 8
        · rw [if_neg (by simp [h8]), splice_all v h8, if_pos h8]
        · rw [if_pos (by simp [h8]), if_neg h8]
    | some n =>
      have hn := colons_lt _ _ hc
      have z := pieces_ref false (s.extract 0 n) (by rw [size_B, B_to, List.length_take]; omega)
      have z2 := pieces_ref true (s.extract (n + 2) s.size) (by rw [size_B, B_from, List.length_drop]; omega)
      rw [B_to] at z
      rw [B_from] at z2
      refine Ev.bind z (Ev.bind z2 ?_)
      show Ev _ (P6b (PL false ((B s).take n)) (PL true ((B s).drop (n + 2))))
      cases hp : PL false ((B s).take n) with
      | none =>
        cases hp2 : PL true ((B s).drop (n + 2)) with
        | none => exact Ev.pos (by simp) (Ev.now _)
        | some b =>
          have hb := (PL_rng hp2).1
          rw [List.length_drop] at hb
          exact Ev.pos ⟨by simp, by simp only; omega⟩ (Ev.now _)
      | some a =>
        have ha := PL_rng hp
        have ha1 := ha.1
        rw [List.length_take] at ha1
        cases hp2 : PL true ((B s).drop (n + 2)) with
        | none => exact Ev.pos ⟨by simp only; omega, by simp⟩ (Ev.now _)
        | some b =>
          have hb := PL_rng hp2
          have hb1 := hb.1
          rw [List.length_drop] at hb1
          refine Ev.pos ⟨by simp only; omega, by simp only; omega⟩ (Ev.tell ?_)
          show ref_res2 true true a b = _
          unfold ref_res2 ref_bad2
          rw [P6b_some]
          rw [wr_id ha.2, wr_id hb.2]
          by_cases h7 : a.length + b.length ≤ 7
          · rw [if_neg (by simp; omega), splice_ab a b h7, if_pos h7]
          · rw [if_pos (by simp; omega), if_neg h7]
theorem IpTexts (s : ByteArray) (hs : s.size ≤ maxLen) : ∃ k, sprlaw7_IpTexts.f k s = some true := by
  unfold sprlaw7_IpTexts.f
  by_cases h : s.size ≤ 5000
  · refine Ev.rounds (Ev.pos h ?_)
    refine Ev.bind (Parse4_prog s (by omega)) (Ev.bind (Parse4_ref s (by omega)) (Ev.bind (Parse6_prog s (by omega)) (Ev.bind (Parse6_ref s (by omega)) (Ev.bind (ends_prog s (by omega)) (Ev.bind (ends_ref s (by omega)) ?_)))))
    exact Ev.pos ⟨rfl, rfl, rfl, P6_len _⟩ (Ev.now _)
  · exact ⟨0, if_neg h⟩

end Go.Proofs.YtldkhokpedfhdaaDoor.Pure
