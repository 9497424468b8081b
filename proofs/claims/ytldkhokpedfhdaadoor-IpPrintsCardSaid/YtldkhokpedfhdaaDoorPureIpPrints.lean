/-
The law IpPrints, over the Lean functions that its walk computes: the program's and the reference's texts of numbers of machines are the same.
-/
import Derived.Test.YtldkhokpedfhdaaDoorQ13
set_option linter.unusedVariables false
set_option linter.unusedSimpArgs false
namespace Go.Proofs.YtldkhokpedfhdaaDoor.Pure
open Go.RowKit Go.Proofs.YtldkhokpedfhdaaDoor.Q Go.Proofs.YtldkhokpedfhdaaDoorW.PrintWords Go.Proofs.YtldkhokpedfhdaaDoorW.PrintLast
theorem wrap_id {x : Int} (h0 : -9223372036854775808 ≤ x) (h1 : x ≤ 9223372036854775807) : wrap64 x = x := by unfold wrap64; omega
theorem Ev.succ {α : Type} {g : Nat → Option α} {r : α} (h : Ev (fun k => g (k + 1)) r) : Ev g r := Ev.step (fun _ => rfl) h
theorem Ev.konst {α : Type} {o : Option α} {r : α} (h : o = some r) : Ev (fun _ => o) r := ⟨0, fun _ _ => h⟩
theorem Ev.at {α : Type} {g : Nat → Option α} {r : α} (K : Nat) (h : ∀ k, g (k + K) = some r) : Ev g r := ⟨K, fun n hn => by
  obtain ⟨m, rfl⟩ : ∃ m, n = m + K := ⟨n - K, by omega⟩
  exact h m⟩
theorem drop_cons {α : Type} {l : List α} {i : Nat} {c : α} {t : List α} (h : l.drop i = c :: t) : i < l.length ∧ l[i]? = some c ∧ l.drop (i + 1) = t := by
  have h1 : (l.drop i)[0]? = some c := by rw [h]; rfl
  rw [List.getElem?_drop] at h1
  simp only [Nat.add_zero] at h1
  refine ⟨(List.getElem?_eq_some_iff.1 h1).1, h1, ?_⟩
  rw [← List.drop_drop, h]; rfl
theorem drop_nil {α : Type} {l : List α} {i : Nat} (h : l.drop i = []) : l.length ≤ i := by
  simpa using h
theorem rd_of {l : List Int} {i : Nat} {c : Int} (h : l[i]? = some c) : rd l (i : Int) = c := by
  unfold rd; rw [Int.toNat_natCast, List.getD_eq_getElem?_getD, h]; rfl
theorem rdOf_of {α : Type} {d : α} {l : List α} {i : Nat} {c : α} (h : l[i]? = some c) : rdOf d l (i : Int) = c := by
  unfold rdOf; rw [Int.toNat_natCast, List.getD_eq_getElem?_getD, h]; rfl
theorem cast_succ (i : Nat) : ((i : Int) + 1) = ((i + 1 : Nat) : Int) := by omega
theorem Ev.tell {α : Type} {a r : α} (h : a = r) : Ev (fun _ => some a) r := h ▸ Ev.now a
theorem Ev.pos {α : Type} {c : Prop} [Decidable c] {A B : Nat → Option α} {r : α} (h : c) (k : Ev A r) : Ev (fun n => if c then A n else B n) r := Ev.congr (fun _ => if_pos h) k
theorem Ev.neg {α : Type} {c : Prop} [Decidable c] {A B : Nat → Option α} {r : α} (h : ¬ c) (k : Ev B r) : Ev (fun n => if c then A n else B n) r := Ev.congr (fun _ => if_neg h) k
theorem Ev.ite {α : Type} {c : Prop} [Decidable c] {A B : Nat → Option α} {r : α} (h : c → Ev A r) (k : ¬ c → Ev B r) : Ev (fun n => if c then A n else B n) r := by
  by_cases q : c
  · exact Ev.pos q (h q)
  · exact Ev.neg q (k q)
theorem Ev.bnd {α β : Type} {o : Option β} {a : β} {f : Nat → β → Option α} {r : α} (h : o = some a) (k : Ev (fun n => f n a) r) : Ev (fun n => o.bind (f n)) r := by
  subst h; exact k
/-- A text's bytes. -/
def B (s : ByteArray) : List UInt8 := s.data.toList
def mk (l : List UInt8) : ByteArray := ⟨l.toArray⟩
theorem B_mk (l : List UInt8) : B (mk l) = l := rfl
theorem mk_B (s : ByteArray) : mk (B s) = s := rfl
theorem B_inj {s t : ByteArray} (h : B s = B t) : s = t := by rw [← mk_B s, ← mk_B t, h]
theorem toList_B (s : ByteArray) : s.toList = B s := Lib.toList_data s
theorem size_B (s : ByteArray) : s.size = (B s).length := Lib.size_eq s
theorem B_extract (s : ByteArray) (a b : Nat) : B (s.extract a b) = ((B s).drop a).take (b - a) := Lib.extract_data s a b
theorem B_append (s t : ByteArray) : B (s ++ t) = B s ++ B t := by
  unfold B
  rw [ByteArray.data_append, Array.toList_append]
theorem B_to (s : ByteArray) (n : Nat) : B (s.extract 0 n) = (B s).take n := by rw [B_extract, List.drop_zero, Nat.sub_zero]
theorem B_from (s : ByteArray) (n : Nat) : B (s.extract n s.size) = (B s).drop n := by
  rw [B_extract, size_B]
  exact List.take_of_length_le (by rw [List.length_drop]; omega)
theorem bt_of {s : ByteArray} {i : Nat} {c : UInt8} (h : (B s)[i]? = some c) : bt s (i : Int) = (c.toNat : Int) := by
  unfold bt
  have hi : i < s.size := by rw [size_B]; exact (List.getElem?_eq_some_iff.1 h).1
  rw [Int.toNat_natCast, dif_pos hi]
  have : (s[i]'hi) = c := by
    have h1 : (B s)[i]? = some (s[i]'hi) := by
      unfold B
      rw [Array.getElem?_toList]
      exact Array.getElem?_eq_getElem _
    rw [h1] at h
    exact Option.some.inj h
  rw [this]
/-- The byte that a suffix begins with. -/
theorem bt_drop {s : ByteArray} {i : Nat} {c : UInt8} {t : List UInt8} (h : (B s).drop i = c :: t) : bt s (i : Int) = (c.toNat : Int) ∧ i < s.size ∧ (B s).drop (i + 1) = t := by
  obtain ⟨h1, h2, h3⟩ := drop_cons h
  exact ⟨bt_of h2, by rw [size_B]; exact h1, h3⟩
theorem end_drop {s : ByteArray} {i : Nat} (h : (B s).drop i = []) : s.size ≤ i := by rw [size_B]; exact drop_nil h
theorem u8_eq (c : UInt8) (n : Nat) (h : n < 256) : ((c.toNat : Int) = (n : Int)) ↔ c = UInt8.ofNat n := by
  constructor
  · intro e
    have e' : c.toNat = n := by omega
    rw [← e']; exact (UInt8.ofNat_toNat).symm
  · intro e
    rw [e, UInt8.toNat_ofNat']
    have : n % 2 ^ 8 = n := Nat.mod_eq_of_lt h
    omega
theorem u8_lt (c : UInt8) : (c.toNat : Int) < 256 ∧ 0 ≤ (c.toNat : Int) := by
  have := UInt8.toNat_lt c
  omega
def decL (n : Nat) : List UInt8 := if h : n < 10 then [UInt8.ofNat (48 + n)] else decL (n / 10) ++ [UInt8.ofNat (48 + n % 10)]
termination_by n
decreasing_by omega
theorem decL_small {n : Nat} (h : n < 10) : decL n = [UInt8.ofNat (48 + n)] := by unfold decL; rw [dif_pos h]
theorem decL_big {n : Nat} (h : ¬ n < 10) : decL n = decL (n / 10) ++ [UInt8.ofNat (48 + n % 10)] := by rw [decL, dif_neg h]
theorem decL_len : ∀ (b n : Nat), n < 10 ^ (b + 1) → (decL n).length ≤ b + 1
  | 0, n, h => by rw [decL_small (by simpa using h)]; simp
  | b + 1, n, h => by
    by_cases h10 : n < 10
    · rw [decL_small h10]; simp
    · rw [decL_big h10, List.length_append, List.length_singleton]
      have := decL_len b (n / 10) (by rw [Nat.pow_succ] at h; omega)
      omega
theorem decL_digits : ∀ (b n : Nat), n < b → ∀ c ∈ decL n, 48 ≤ c.toNat ∧ c.toNat ≤ 57
  | 0, n, h => by omega
  | b + 1, n, h => by
    intro c hc
    by_cases h10 : n < 10
    · rw [decL_small h10] at hc
      rw [List.mem_singleton.1 hc, UInt8.toNat_ofNat_of_lt' (by show 48 + n < 256; omega)]; omega
    · rw [decL_big h10] at hc
      rcases List.mem_append.1 hc with m | m
      · exact decL_digits b (n / 10) (by omega) c m
      · rw [List.mem_singleton.1 m, UInt8.toNat_ofNat_of_lt' (by show 48 + n % 10 < 256; omega)]; omega
theorem decL_ne (n : Nat) : decL n ≠ [] := by
  by_cases h10 : n < 10
  · rw [decL_small h10]; simp
  · rw [decL_big h10]; simp
theorem num_one {x : Int} {n : Nat} (h : x = (n : Int)) (hn : n < 256) : strOfNums [(wrap64 x) % 256] = mk [UInt8.ofNat n] := by
  have : (wrap64 x) % 256 = (n : Int) := by rw [wrap_id (by omega) (by omega)]; omega
  rw [this]; rfl
theorem i64w (n : Int) (h₀ : 0 ≤ n) (h₁ : n < 2 ^ 63) : IntKind.i64.wrap n = n := by rw [IntKind.wrap_i64]; omega
theorem and63 (x : Int) (h0 : 0 ≤ x) (h1 : x < 9223372036854775808) : Go.bits .and .i64 x 63 = x % 64 := Go.bits_mask .i64 63 (by decide) i64w 6 (by decide) x h0 h1
theorem and31 (x : Int) (h0 : 0 ≤ x) (h1 : x < 9223372036854775808) : Go.bits .and .i64 x 31 = x % 32 := Go.bits_mask .i64 63 (by decide) i64w 5 (by decide) x h0 h1
theorem and15 (x : Int) (h0 : 0 ≤ x) (h1 : x < 9223372036854775808) : Go.bits .and .i64 x 15 = x % 16 := Go.bits_mask .i64 63 (by decide) i64w 4 (by decide) x h0 h1
theorem and7 (x : Int) (h0 : 0 ≤ x) (h1 : x < 9223372036854775808) : Go.bits .and .i64 x 7 = x % 8 := Go.bits_mask .i64 63 (by decide) i64w 3 (by decide) x h0 h1
theorem or128 (y : Int) (h0 : 0 ≤ y) (h1 : y < 64) : Go.bits .or .i64 128 y = 128 + y :=
  Go.bits_join .i64 63 (by decide) i64w 6 128 y (by decide) (by decide) (by decide) h0 h1 (by omega)
theorem or192 (y : Int) (h0 : 0 ≤ y) (h1 : y < 32) : Go.bits .or .i64 192 y = 192 + y :=
  Go.bits_join .i64 63 (by decide) i64w 5 192 y (by decide) (by decide) (by decide) h0 h1 (by omega)
theorem or224 (y : Int) (h0 : 0 ≤ y) (h1 : y < 16) : Go.bits .or .i64 224 y = 224 + y :=
  Go.bits_join .i64 63 (by decide) i64w 4 224 y (by decide) (by decide) (by decide) h0 h1 (by omega)
theorem or240 (y : Int) (h0 : 0 ≤ y) (h1 : y < 8) : Go.bits .or .i64 240 y = 240 + y :=
  Go.bits_join .i64 63 (by decide) i64w 3 240 y (by decide) (by decide) (by decide) h0 h1 (by omega)
theorem orsix (x y : Int) (hx : 0 ≤ x) (hx1 : x < 100000000000000000) (h0 : 0 ≤ y) (h1 : y < 64) : Go.bits .or .i64 (x * 64) y = x * 64 + y :=
  Go.bits_join .i64 63 (by decide) i64w 6 (x * 64) y (by omega) (by omega) (by omega) h0 h1 (by omega)
theorem wf_u16 {x : Int} (h : (Lit.int .u16 x).wf = true) : 0 ≤ x ∧ x < 65536 := by
  simp [Lit.wf, IntKind.min, IntKind.max, IntKind.signed, IntKind.bits] at h
  omega
theorem wf_u32 {x : Int} (h : (Lit.int .u32 x).wf = true) : 0 ≤ x ∧ x < 4294967296 := by
  simp [Lit.wf, IntKind.min, IntKind.max, IntKind.signed, IntKind.bits] at h
  omega
theorem u32w (n : Int) (h₀ : 0 ≤ n) (h₁ : n < 2 ^ 32) : IntKind.u32.wrap n = n := by show n % 4294967296 = n; omega
theorem and255u (x : Int) (h0 : 0 ≤ x) (h1 : x < 4294967296) : Go.bits .and .u32 x 255 = x % 256 := Go.bits_mask .u32 32 (by decide) u32w 8 (by decide) x h0 h1
theorem decD_eq : ∀ (b n : Nat), n < b → Lib.decDigits n = decL n
  | 0, n, h => by omega
  | b + 1, n, h => by
    rw [Lib.decDigits]
    by_cases h10 : n < 10
    · rw [dif_pos h10, decL_small h10]
    · rw [dif_neg h10, decL_big h10, decD_eq b (n / 10) (by omega)]
theorem Itoa_dec (n : Nat) (h : n ≤ 9223372036854775807) : strconv_Itoa.f (n : Int) = some (mk (decL n)) := by
  unfold strconv_Itoa.f Lib.itoa
  rw [if_pos (by omega), if_neg (by omega), Int.toNat_natCast, decD_eq (n + 1) n (by omega)]
  rfl
def q4 (n : Int) (i : Nat) : Nat := (n / [16777216, 65536, 256, 1].getD i 1 % 256).toNat
/-- Four bytes written. -/
def pr4 (n : Int) : List UInt8 := decL (q4 n 0) ++ 46 :: (decL (q4 n 1) ++ 46 :: (decL (q4 n 2) ++ 46 :: decL (q4 n 3)))
theorem q4_lt (n : Int) (i : Nat) : q4 n i < 256 := by
  unfold q4
  have h := Int.emod_lt_of_pos (n / [16777216, 65536, 256, 1].getD i 1) (show (0 : Int) < 256 by decide)
  have h2 := Int.emod_nonneg (n / [16777216, 65536, 256, 1].getD i 1) (show (256 : Int) ≠ 0 by decide)
  omega
theorem dec_len3 (n : Int) (i : Nat) : (decL (q4 n i)).length ≤ 3 := decL_len 2 _ (by have := q4_lt n i; omega)
theorem pr4_step (n : Int) (hn : 0 ≤ n ∧ n < 4294967296) (i : Nat) (hi : i < 4) (acc : List ByteArray) (ha : acc.length ≤ 4) {r : ByteArray} (h : Ev (fun k => ip_Print4.l0 k n (acc ++ [mk (decL (q4 n i))]) ((i + 1 : Nat) : Int)) r) : Ev (fun k => ip_Print4.l0 k n acc (i : Int)) r := by
  have hs : shr .u32 n (wrap64 (24 - (wrap64 (8 * (i : Int))))) = n / [16777216, 65536, 256, 1].getD i 1 := by
    match i, hi with
    | 0, _ => show _ = _; kernel_rfl
    | 1, _ => show _ = _; kernel_rfl
    | 2, _ => show _ = _; kernel_rfl
    | 3, _ => show _ = _; kernel_rfl
  have hr : 0 ≤ n / [16777216, 65536, 256, 1].getD i 1 ∧ n / [16777216, 65536, 256, 1].getD i 1 < 4294967296 := by
    match i, hi with
    | 0, _ => show 0 ≤ n / 16777216 ∧ n / 16777216 < 4294967296; omega
    | 1, _ => show 0 ≤ n / 65536 ∧ n / 65536 < 4294967296; omega
    | 2, _ => show 0 ≤ n / 256 ∧ n / 256 < 4294967296; omega
    | 3, _ => show 0 ≤ n / 1 ∧ n / 1 < 4294967296; omega
  have hq := q4_lt n i
  refine Ev.step (fun _ => ip_Print4.l0.eq_2 ..) (Ev.pos (by omega) (Ev.pos ?_ ?_))
  · match i, hi with
    | 0, _ => decide +kernel
    | 1, _ => decide +kernel
    | 2, _ => decide +kernel
    | 3, _ => decide +kernel
  · rw [hs, and255u _ hr.1 hr.2]
    have e : n / [16777216, 65536, 256, 1].getD i 1 % 256 = ((q4 n i : Nat) : Int) := by unfold q4; rw [Int.toNat_of_nonneg (by omega)]
    rw [e, wrap_id (by omega) (by omega)]
    refine Ev.bnd (Itoa_dec _ (by omega)) (Ev.pos (by omega) ?_)
    rw [wrap_id (x := (i : Int) + 1) (by omega) (by omega), cast_succ]
    exact h
theorem join_f (l : List (List UInt8)) (c : UInt8) (h : l.length ≤ 100) (hl : ([c].intercalate l).length ≤ 1000000) : strings_Join.f (l.map mk) (⟨#[c]⟩ : ByteArray) = some (mk ([c].intercalate l)) := by
  have e : (l.map mk).map (·.data.toList) = l := by rw [List.map_map]; exact (List.map_congr_left (fun x _ => rfl)).trans (List.map_id l)
  unfold strings_Join.f Lib.join
  rw [e, if_pos ⟨by rw [List.length_map]; omega, by show ([c].intercalate l).length ≤ _; omega⟩]
  rfl
theorem Print4_prog (n : Int) (hn : 0 ≤ n ∧ n < 4294967296) : Ev (fun k => ip_Print4.f k n) (mk (pr4 n)) := by
  have e0 : ∀ r : ByteArray, Ev (fun k => ip_Print4.l0 k n [] ((0 : Nat) : Int)) r → Ev (fun k => ip_Print4.f k n) r := fun r z => z
  apply e0
  refine pr4_step n hn 0 (by decide) _ (by simp) (pr4_step n hn 1 (by decide) _ (by simp) (pr4_step n hn 2 (by decide) _ (by simp) (pr4_step n hn 3 (by decide) _ (by simp) ?_)))
  refine Ev.step (fun _ => ip_Print4.l0.eq_2 ..) (Ev.neg (by decide) ?_)
  have e : ([46] : List UInt8).intercalate [decL (q4 n 0), decL (q4 n 1), decL (q4 n 2), decL (q4 n 3)] = pr4 n := by
    unfold pr4
    simp [List.intercalate, List.intersperse]
  have hl : (pr4 n).length ≤ 1000000 := by
    unfold pr4
    have h0 := dec_len3 n 0; have h1 := dec_len3 n 1; have h2 := dec_len3 n 2; have h3 := dec_len3 n 3
    simp only [List.length_append, List.length_cons]; omega
  refine Ev.bnd (a := mk (pr4 n)) ?_ (Ev.now _)
  have z := join_f [decL (q4 n 0), decL (q4 n 1), decL (q4 n 2), decL (q4 n 3)] 46 (by simp) (by rw [e]; exact hl)
  rw [e] at z
  exact z
theorem Dec_ok : ∀ (b n : Nat), n < b → n ≤ 9223372036854775807 → Ev (fun k => sprref_Dec.f k (n : Int)) (mk (decL n))
  | 0, n, h, _ => by omega
  | b + 1, n, h, hm => by
    refine Ev.step (fun _ => sprref_Dec.f.eq_2 ..) (Ev.neg (by omega) ?_)
    by_cases h10 : n < 10
    · refine Ev.pos (by omega) ?_
      rw [num_one (n := 48 + n) (by omega) (by omega), decL_small h10]
      exact Ev.now _
    · refine Ev.neg (by omega) ?_
      have e1 : Int.tdiv (n : Int) 10 = ((n / 10 : Nat) : Int) := rfl
      have e2 : Int.tmod (n : Int) 10 = ((n % 10 : Nat) : Int) := rfl
      rw [e1, e2, wrap_id (x := ((n / 10 : Nat) : Int)) (by omega) (by omega)]
      have hl := decL_len 18 (n / 10) (by omega)
      refine Ev.bind (Dec_ok b (n / 10) (by omega) (by omega)) (Ev.bnd rfl ?_)
      rw [num_one (n := 48 + n % 10) (by omega) (by omega)]
      refine Ev.pos (by rw [size_B, size_B, B_mk, B_mk]; simp; omega) ?_
      have e : mk (decL (n / 10)) ++ mk [UInt8.ofNat (48 + n % 10)] = mk (decL n) := by
        apply B_inj
        rw [B_append, B_mk, B_mk, B_mk, ← decL_big h10]
      rw [e]
      exact Ev.now _
theorem Print4_ref (n : Int) (hn : 0 ≤ n ∧ n < 4294967296) : Ev (fun k => sprref7_Print4.f k n) (mk (pr4 n)) := by
  have h0 := dec_len3 n 0; have h1 := dec_len3 n 1; have h2 := dec_len3 n 2; have h3 := dec_len3 n 3
  have q0 := q4_lt n 0; have q1 := q4_lt n 1; have q2 := q4_lt n 2; have q3 := q4_lt n 3
  have D : ∀ (i : Nat), Ev (fun k => sprref_Dec.f k ((q4 n i : Nat) : Int)) (mk (decL (q4 n i))) := fun i => Dec_ok _ _ (Nat.lt_succ_self _) (by have := q4_lt n i; omega)
  have e0 : wrap64 (n / 16777216) = ((q4 n 0 : Nat) : Int) := by
    rw [wrap_id (by omega) (by omega)]
    show _ = (((n / 16777216 % 256).toNat : Nat) : Int)
    omega
  have e1 : wrap64 (Go.bits .and .u32 (n / 65536) 255) = ((q4 n 1 : Nat) : Int) := by
    rw [and255u _ (by omega) (by omega), wrap_id (by omega) (by omega)]
    show _ = (((n / 65536 % 256).toNat : Nat) : Int)
    omega
  have e2 : wrap64 (Go.bits .and .u32 (n / 256) 255) = ((q4 n 2 : Nat) : Int) := by
    rw [and255u _ (by omega) (by omega), wrap_id (by omega) (by omega)]
    show _ = (((n / 256 % 256).toNat : Nat) : Int)
    omega
  have e3 : wrap64 (Go.bits .and .u32 n 255) = ((q4 n 3 : Nat) : Int) := by
    rw [and255u _ (by omega) (by omega), wrap_id (by omega) (by omega)]
    show _ = (((n / 1 % 256).toNat : Nat) : Int)
    omega
  have Z : ∀ l : List UInt8, (mk l).size = l.length := fun l => by rw [size_B, B_mk]
  have hd : (⟨#[46]⟩ : ByteArray).size = 1 := rfl
  have A : ∀ (s t : ByteArray), (s ++ t).size = s.size + t.size := fun s t => by rw [size_B, size_B, size_B, B_append, List.length_append]
  unfold sprref7_Print4.f
  rw [e0, e1, e2, e3]
  refine Ev.bind (D 0) (Ev.pos (by rw [Z]; omega) (Ev.bind (D 1) (Ev.pos (by rw [A, Z, Z, hd]; omega) (Ev.pos (by rw [A, A, Z, Z, hd]; omega) (Ev.bind (D 2) (Ev.pos (by rw [A, A, A, Z, Z, Z, hd]; omega) (Ev.pos (by rw [A, A, A, A, Z, Z, Z, hd]; omega) (Ev.bind (D 3) (Ev.pos (by rw [A, A, A, A, A, Z, Z, Z, Z, hd]; omega) (Ev.tell ?_))))))))))
  apply B_inj
  simp only [B_append, B_mk, pr4]
  show _ ++ [46] ++ _ ++ [46] ++ _ ++ [46] ++ _ = _
  simp
/-- A number below 65536 in digits of 16. -/
def hx (n : Nat) : List UInt8 := if n < 16 then [Own.hexD n] else if n < 256 then [Own.hexD (n / 16), Own.hexD (n % 16)] else if n < 4096 then [Own.hexD (n / 256), Own.hexD (n / 16 % 16), Own.hexD (n % 16)] else [Own.hexD (n / 4096), Own.hexD (n / 256 % 16), Own.hexD (n / 16 % 16), Own.hexD (n % 16)]
theorem hexT_eq {n : Nat} (h : n < 65536) : Own.hexT 16 n [] = hx n := by
  unfold hx
  by_cases h1 : n < 16
  · rw [if_pos h1, Own.hexT.eq_2, if_pos h1]
  · rw [if_neg h1, Own.hexT.eq_2, if_neg h1]
    by_cases h2 : n < 256
    · rw [if_pos h2, Own.hexT.eq_2, if_pos (by omega)]
    · rw [if_neg h2, Own.hexT.eq_2, if_neg (by omega)]
      by_cases h3 : n < 4096
      · rw [if_pos h3, Own.hexT.eq_2, if_pos (by omega), show n / 16 / 16 = n / 256 by omega]
      · rw [if_neg h3, Own.hexT.eq_2, if_neg (by omega), Own.hexT.eq_2, if_pos (by omega), show n / 16 / 16 = n / 256 by omega, show n / 256 / 16 = n / 4096 by omega]
theorem hx_len (n : Nat) : (hx n).length ≤ 4 ∧ 1 ≤ (hx n).length := by
  unfold hx
  split
  · simp
  · split
    · simp
    · split <;> simp
def hI (x : Int) : List UInt8 := hx x.toNat
/-- Texts with colons between. -/
def tl : List (List UInt8) → List UInt8
  | [] => []
  | x :: r => 58 :: (x ++ tl r)
def jn : List (List UInt8) → List UInt8
  | [] => []
  | x :: r => x ++ tl r
theorem jn_inter : ∀ l : List (List UInt8), ([58] : List UInt8).intercalate l = jn l
  | [] => rfl
  | [x] => by simp [List.intercalate, jn, tl]
  | x :: y :: r => by
    have ih := jn_inter (y :: r)
    have e : ([58] : List UInt8).intercalate (x :: y :: r) = x ++ 58 :: ([58] : List UInt8).intercalate (y :: r) := by simp [List.intercalate, List.intersperse]
    rw [e, ih]
    rfl
theorem tl_append : ∀ a b : List (List UInt8), tl (a ++ b) = tl a ++ tl b
  | [], b => rfl
  | x :: a, b => by
    show 58 :: (x ++ tl (a ++ b)) = (58 :: (x ++ tl a)) ++ tl b
    rw [tl_append a b]
    simp
theorem jn_snoc (a : List (List UInt8)) (x : List UInt8) : jn (a ++ [x]) = if a = [] then x else jn a ++ 58 :: x := by
  cases a with
  | nil => simp [jn, tl]
  | cons y r =>
    rw [if_neg (by simp)]
    show y ++ tl (r ++ [x]) = (y ++ tl r) ++ 58 :: x
    rw [tl_append]
    simp [tl]
theorem tl_len : ∀ l : List (List UInt8), (∀ x ∈ l, x.length ≤ 4) → (tl l).length ≤ 5 * l.length
  | [], _ => Nat.le_refl _
  | x :: r, h => by
    have := tl_len r (fun y hy => h y (List.mem_cons_of_mem _ hy))
    have := h x List.mem_cons_self
    simp only [tl, List.length_cons, List.length_append]; omega
theorem jn_len (l : List (List UInt8)) (h : ∀ x ∈ l, x.length ≤ 4) : (jn l).length ≤ 5 * l.length := by
  cases l with
  | nil => exact Nat.le_refl _
  | cons x r =>
    have := tl_len r (fun y hy => h y (List.mem_cons_of_mem _ hy))
    have := h x List.mem_cons_self
    simp only [jn, List.length_cons, List.length_append]; omega
def okP (p : List Int) : Prop := ∀ x ∈ p, 0 ≤ x ∧ x < 65536
theorem Fmt_ok (x : Int) (h0 : 0 ≤ x) (h1 : x < 65536) : strconv_FormatUint.f (IntKind.u64.wrap x) 16 = some (mk (hI x)) := by
  have e : IntKind.u64.wrap x = x := by show x % 18446744073709551616 = x; omega
  unfold strconv_FormatUint.f
  rw [e, if_pos ⟨h0, by omega, rfl⟩, hexT_eq (by omega)]
  rfl
theorem text_loop (p : List Int) (hp : okP p) (hl : p.length ≤ 8) : ∀ (rest : List Int) (i : Nat) (acc : List (List UInt8)), p.drop i = rest → i ≤ p.length → acc.length = i → acc = (p.take i).map hI → Ev (fun k => ip_text.l0 k (acc.map mk) p (p.length : Int) (i : Int)) (mk (jn (p.map hI)))
  | [], i, acc, h, hi, ha, he => by
    have hh := drop_nil h
    have e : i = p.length := by omega
    subst e
    rw [List.take_length] at he
    have hj : (jn (p.map hI)).length ≤ 1000000 := by
      have := jn_len (p.map hI) (fun x hx => by obtain ⟨y, _, rfl⟩ := List.mem_map.1 hx; exact (hx_len _).1)
      rw [List.length_map] at this; omega
    refine Ev.step (fun _ => ip_text.l0.eq_2 ..) (Ev.neg (by omega) ?_)
    have z := join_f acc 58 (by omega) (by rw [jn_inter, he]; exact hj)
    rw [jn_inter, he] at z
    rw [he]
    exact Ev.bnd z (Ev.now _)
  | x :: r, i, acc, h, hi, ha, he => by
    obtain ⟨e1, e2, e3⟩ := drop_cons h
    have hx := hp x (List.mem_of_getElem? e2)
    have ih := text_loop p hp hl r (i + 1) (acc ++ [hI x]) e3 (by omega) (by rw [List.length_append, ha]; rfl) (by rw [he, List.take_add_one, e2, List.map_append]; rfl)
    refine Ev.step (fun _ => ip_text.l0.eq_2 ..) (Ev.pos (by omega) (Ev.pos (by omega) (Ev.pos (by omega) ?_)))
    rw [rd_of e2]
    refine Ev.bnd (Fmt_ok x hx.1 hx.2) (Ev.pos (by rw [List.length_map]; omega) ?_)
    rw [wrap_id (x := (i : Int) + 1) (by omega) (by omega), cast_succ]
    rw [List.map_append] at ih
    exact ih
theorem text_prog (p : List Int) (hp : okP p) (hl : p.length ≤ 8) : Ev (fun k => ip_text.f k p) (mk (jn (p.map hI))) := text_loop p hp hl p 0 [] rfl (Nat.zero_le _) rfl rfl
/-- Eight pieces written. -/
def pr6 (p : List Int) : List UInt8 := if (zerosG p 0 0 0 0).2 < 2 then jn (p.map hI) else jn ((p.take (zerosG p 0 0 0 0).1.toNat).map hI) ++ ([58, 58] ++ jn ((p.drop ((zerosG p 0 0 0 0).1 + (zerosG p 0 0 0 0).2).toNat).map hI))
theorem okP_take {p : List Int} (h : okP p) (n : Nat) : okP (p.take n) := fun x hx => h x (List.mem_of_mem_take hx)
theorem okP_drop {p : List Int} (h : okP p) (n : Nat) : okP (p.drop n) := fun x hx => h x (List.mem_of_mem_drop hx)
theorem jnI_len (p : List Int) (hl : p.length ≤ 8) : (jn (p.map hI)).length ≤ 40 := by
  have := jn_len (p.map hI) (fun x hx => by obtain ⟨y, _, rfl⟩ := List.mem_map.1 hx; exact (hx_len _).1)
  rw [List.length_map] at this; omega
theorem Print6_prog (p : List Int) (hp : okP p) (h8 : p.length = 8) : Ev (fun k => ip_Print6.g k p) (mk (pr6 p)) := by
  unfold ip_Print6.g pr6
  refine Ev.pos h8 ?_
  by_cases h2 : (zerosG p 0 0 0 0).2 < 2
  · rw [if_pos h2]
    exact Ev.pos h2 (text_prog p hp (by omega))
  · rw [if_neg h2]
    refine Ev.neg h2 (Ev.bind (text_prog _ (okP_take hp _) (by rw [List.length_take]; omega)) (Ev.bind (text_prog _ (okP_drop hp _) (by rw [List.length_drop]; omega)) (Ev.pos ?_ (Ev.tell ?_))))
    · have := jnI_len (p.take (zerosG p 0 0 0 0).1.toNat) (by rw [List.length_take]; omega)
      have := jnI_len (p.drop ((zerosG p 0 0 0 0).1 + (zerosG p 0 0 0 0).2).toNat) (by rw [List.length_drop]; omega)
      rw [size_B, size_B, B_mk, B_mk]; omega
    · apply B_inj
      rw [B_append, B_append, B_mk, B_mk, B_mk]
      show _ ++ [58, 58] ++ _ = _
      rw [List.append_assoc]
/-- The run of zeros, by what is zero alone. -/
def zG : List Bool → Int → Int → Int → Int → Int × Int
  | [], _, a, m, _ => (a, m)
  | x :: r, i, a, m, n => if x = true then (if n + 1 > m then zG r (i + 1) (i + 1 - (n + 1)) (n + 1) (n + 1) else zG r (i + 1) a m (n + 1)) else (if 0 > m then zG r (i + 1) (i + 1) 0 0 else zG r (i + 1) a m 0)
theorem zG_eq : ∀ (p : List Int) (i a m n : Int), zerosG p i a m n = zG (p.map (· == 0)) i a m n
  | [], i, a, m, n => rfl
  | x :: r, i, a, m, n => by
    have ih := zG_eq r
    by_cases h : x = 0
    · subst h
      simp [zerosG, zG, ih]
    · simp [zerosG, zG, ih, h]
def zrB : List Bool → Nat
  | [] => 0
  | x :: r => if x = true then zrB r + 1 else 0
theorem zrB_eq : ∀ p : List Int, zrun p = zrB (p.map (· == 0))
  | [] => rfl
  | x :: r => by
    have ih := zrB_eq r
    by_cases h : x = 0
    · subst h
      simp [zrun, zrB, ih]
    · simp [zrun, zrB, h]
def rZ : List Bool → Nat → Nat → Nat → Nat × Nat
  | [], _, a, m => (a, m)
  | x :: r, i, a, m => if m < zrB (x :: r) then rZ r (i + 1) i (zrB (x :: r)) else rZ r (i + 1) a m
theorem rZ_eq : ∀ (p : List Int) (i a m : Nat), refZ p i a m = rZ (p.map (· == 0)) i a m
  | [], i, a, m => rfl
  | x :: r, i, a, m => by
    have ih := rZ_eq r
    have e := zrB_eq (x :: r)
    rw [List.map_cons] at e ⊢
    rw [refZ, rZ, e, ih, ih]
def zchk (b : List Bool) : Bool := if (zG b 0 0 0 0).2 < 2 then rZ b 0 8 1 == (8, 1) else rZ b 0 8 1 == ((zG b 0 0 0 0).1.toNat, (zG b 0 0 0 0).2.toNat)
theorem zchk_all : ∀ b0 b1 b2 b3 b4 b5 b6 b7 : Bool, zchk [b0, b1, b2, b3, b4, b5, b6, b7] = true := by decide +kernel
theorem zeros_both (p : List Int) (h8 : p.length = 8) : ((zerosG p 0 0 0 0).2 < 2 → refZ p 0 8 1 = (8, 1)) ∧ (¬ (zerosG p 0 0 0 0).2 < 2 → refZ p 0 8 1 = ((zerosG p 0 0 0 0).1.toNat, (zerosG p 0 0 0 0).2.toNat)) := by
  have hc : zchk (p.map (· == 0)) = true := by
    match p, h8 with
    | [a, b, c, d, e, f, g, h], _ => exact zchk_all _ _ _ _ _ _ _ _
  rw [zG_eq, rZ_eq]
  unfold zchk at hc
  constructor
  · intro h
    rw [if_pos h] at hc
    exact eq_of_beq hc
  · intro h
    rw [if_neg h] at hc
    exact eq_of_beq hc
set_option maxRecDepth 100000 in
theorem hexC (i : Nat) (h : i < 16) : bt (⟨#[48, 49, 50, 51, 52, 53, 54, 55, 56, 57, 97, 98, 99, 100, 101, 102]⟩ : ByteArray) (i : Int) = ((Own.hexD i).toNat : Int) := by
  have z : ∀ j : Fin 16, bt (⟨#[48, 49, 50, 51, 52, 53, 54, 55, 56, 57, 97, 98, 99, 100, 101, 102]⟩ : ByteArray) (j.val : Int) = ((Own.hexD j.val).toNat : Int) := by decide +kernel
  exact z ⟨i, h⟩
theorem u8w (n : Int) (h₀ : 0 ≤ n) (h₁ : n < 2 ^ 8) : IntKind.u8.wrap n = n := by show n % 256 = n; omega
theorem and15b (x : Int) (h0 : 0 ≤ x) (h1 : x < 256) : Go.bits .and .u8 x 15 = x % 16 := Go.bits_mask .u8 8 (by decide) u8w 4 (by decide) x h0 h1
theorem hex_step (L : List Int) (i : Nat) (v : Nat) (hv : L[i]? = some (v : Int)) (h : v < 256) (acc : List Int) (ha : acc.length ≤ 100) (hi : i ≤ 100) {r : ByteArray} (z : Ev (fun k => sprref1_Hex.l0 k L (⟨#[48, 49, 50, 51, 52, 53, 54, 55, 56, 57, 97, 98, 99, 100, 101, 102]⟩ : ByteArray) (acc ++ [((Own.hexD (v / 16)).toNat : Int), ((Own.hexD (v % 16)).toNat : Int)]) ((i + 1 : Nat) : Int)) r) : Ev (fun k => sprref1_Hex.l0 k L (⟨#[48, 49, 50, 51, 52, 53, 54, 55, 56, 57, 97, 98, 99, 100, 101, 102]⟩ : ByteArray) acc (i : Int)) r := by
  have hl := (List.getElem?_eq_some_iff.1 hv).1
  have hs : (⟨#[48, 49, 50, 51, 52, 53, 54, 55, 56, 57, 97, 98, 99, 100, 101, 102]⟩ : ByteArray).size = 16 := rfl
  refine Ev.step (fun _ => sprref1_Hex.l0.eq_2 ..) (Ev.pos (by omega) (Ev.pos (by omega) ?_))
  rw [rd_of hv, and15b _ (by omega) (by omega)]
  rw [show (v : Int) / 16 = ((v / 16 : Nat) : Int) by omega, show (v : Int) % 16 = ((v % 16 : Nat) : Int) by omega]
  refine Ev.pos (by omega) (Ev.pos (by rw [hs]; omega) (Ev.pos (by omega) (Ev.pos (by rw [hs]; omega) ?_)))
  rw [hexC _ (by omega), hexC _ (by omega)]
  refine Ev.bnd (a := [((Own.hexD (v / 16)).toNat : Int), ((Own.hexD (v % 16)).toNat : Int)]) rfl (Ev.pos (by simp only [List.length_cons, List.length_nil]; omega) ?_)
  rw [wrap_id (x := (i : Int) + 1) (by omega) (by omega), cast_succ]
  exact z
theorem strip_step (s : ByteArray) (a b : UInt8) (t : List UInt8) (h : B s = a :: b :: t) (ht : t.length ≤ 100) {r : ByteArray} (h1 : a = 48 → Ev (fun k => sprref7_piece.l0 k (mk (b :: t))) r) (h2 : a ≠ 48 → r = s) : Ev (fun k => sprref7_piece.l0 k s) r := by
  have hz := size_B s
  rw [h, List.length_cons, List.length_cons] at hz
  have hb : bt s 0 = (a.toNat : Int) := bt_of (s := s) (i := 0) (by rw [h]; rfl)
  refine Ev.step (fun _ => sprref7_piece.l0.eq_2 ..) (Ev.pos (by omega) (Ev.pos (by omega) ?_))
  rw [hb]
  by_cases ha : a = 48
  · subst ha
    refine Ev.pos rfl (Ev.pos (by omega) ?_)
    have e : s.extract 1 s.size = mk (b :: t) := by apply B_inj; rw [B_from, h, B_mk]; rfl
    rw [e]
    exact h1 rfl
  · rw [h2 ha]
    exact Ev.neg (fun q => ha ((u8_eq a 48 (by omega)).1 q)) (Ev.now _)
theorem strip_one (s : ByteArray) (h : s.size ≤ 1) : Ev (fun k => sprref7_piece.l0 k s) s := Ev.step (fun _ => sprref7_piece.l0.eq_2 ..) (Ev.neg (by omega) (Ev.now _))
theorem hexD_zero (n : Nat) (h : n < 16) : Own.hexD n = 48 ↔ n = 0 := by
  have z : ∀ j : Fin 16, Own.hexD j.val = 48 ↔ j.val = 0 := by decide +kernel
  exact z ⟨n, h⟩
theorem num_hex (l : List UInt8) : strOfNums (l.map fun c => (c.toNat : Int)) = mk l := by
  apply B_inj
  rw [B_mk]
  show (List.map _ (List.map _ l)) = l
  rw [List.map_map]
  conv => rhs; rw [← List.map_id l]
  apply List.map_congr_left
  intro c _
  show UInt8.ofNat (((c.toNat : Int)).toNat) = c
  rw [Int.toNat_natCast, UInt8.ofNat_toNat]
theorem piece_ref (x : Int) (h0 : 0 ≤ x) (h1 : x < 65536) : Ev (fun k => sprref7_piece.f k x) (mk (hI x)) := by
  obtain ⟨n, rfl⟩ : ∃ n : Nat, x = (n : Int) := ⟨x.toNat, by omega⟩
  have hn : n < 65536 := by omega
  unfold sprref7_piece.f
  have e1 : (n : Int) / 256 % 256 = ((n / 256 : Nat) : Int) := by omega
  have e2 : (n : Int) % 256 = ((n % 256 : Nat) : Int) := by omega
  rw [e1, e2]
  have z0 : ∀ r : ByteArray, Ev (fun k => sprref1_Hex.l0 k [((n / 256 : Nat) : Int), ((n % 256 : Nat) : Int)] (⟨#[48, 49, 50, 51, 52, 53, 54, 55, 56, 57, 97, 98, 99, 100, 101, 102]⟩ : ByteArray) [] ((0 : Nat) : Int)) r → Ev (fun k => sprref1_Hex.f k [((n / 256 : Nat) : Int), ((n % 256 : Nat) : Int)]) r := fun r z => z
  have z : Ev (fun k => sprref1_Hex.f k [((n / 256 : Nat) : Int), ((n % 256 : Nat) : Int)]) (mk [Own.hexD (n / 4096), Own.hexD (n / 256 % 16), Own.hexD (n / 16 % 16), Own.hexD (n % 16)]) := by
    apply z0
    refine hex_step _ 0 (n / 256) rfl (by omega) [] (by simp) (by omega) (hex_step _ 1 (n % 256) rfl (by omega) _ (by simp) (by omega) ?_)
    refine Ev.step (fun _ => sprref1_Hex.l0.eq_2 ..) (Ev.neg (by simp) (Ev.tell ?_))
    have e := num_hex [Own.hexD (n / 4096), Own.hexD (n / 256 % 16), Own.hexD (n / 16 % 16), Own.hexD (n % 16)]
    rw [← e]
    show strOfNums [((Own.hexD (n / 256 / 16)).toNat : Int), ((Own.hexD (n / 256 % 16)).toNat : Int), ((Own.hexD (n % 256 / 16)).toNat : Int), ((Own.hexD (n % 256 % 16)).toNat : Int)] = strOfNums [((Own.hexD (n / 4096)).toNat : Int), ((Own.hexD (n / 256 % 16)).toNat : Int), ((Own.hexD (n / 16 % 16)).toNat : Int), ((Own.hexD (n % 16)).toNat : Int)]
    rw [show n / 256 / 16 = n / 4096 by omega, show n % 256 / 16 = n / 16 % 16 by omega, show n % 256 % 16 = n % 16 by omega]
  refine Ev.bind z ?_
  have hI' : hI ((n : Nat) : Int) = hx n := by unfold hI; rw [Int.toNat_natCast]
  rw [hI']
  have hd0 := hexD_zero (n / 4096) (by omega)
  have hd1 := hexD_zero (n / 256 % 16) (by omega)
  have hd2 := hexD_zero (n / 16 % 16) (by omega)
  refine strip_step _ _ _ _ rfl (by simp) (fun q => ?_) (fun q => ?_)
  · have q0 := hd0.1 q
    refine strip_step _ _ _ _ rfl (by simp) (fun q => ?_) (fun q => ?_)
    · have q1 := hd1.1 q
      refine strip_step _ _ _ _ rfl (by simp) (fun q => ?_) (fun q => ?_)
      · have q2 := hd2.1 q
        have e : hx n = [Own.hexD (n % 16)] := by unfold hx; rw [if_pos (by omega), show n % 16 = n by omega]
        rw [e]
        exact strip_one _ (by rw [size_B, B_mk]; simp)
      · have q2 : ¬ n / 16 % 16 = 0 := fun z => q (hd2.2 z)
        unfold hx
        rw [if_neg (by omega), if_pos (by omega), show n / 16 % 16 = n / 16 by omega]
    · have q1 : ¬ n / 256 % 16 = 0 := fun z => q (hd1.2 z)
      unfold hx
      rw [if_neg (by omega), if_neg (by omega), if_pos (by omega), show n / 256 % 16 = n / 256 by omega]
  · have q0 : ¬ n / 4096 = 0 := fun z => q (hd0.2 z)
    unfold hx
    rw [if_neg (by omega), if_neg (by omega), if_neg (by omega)]
theorem gd {p : List Int} {i : Nat} {x : Int} (h : p[i]? = some x) : p.getD i 0 = x := by rw [List.getD_eq_getElem?_getD, h]; rfl
/-- One round at a piece: with a colon ahead, or none. -/
theorem rp_piece (p : List Int) (hp : okP p) (a m f i : Nat) (s : ByteArray) (h8 : i < 8) (hia : ¬ i = a) (x : Int) (hx : p[i]? = some x) (hs : s.size ≤ 1000) {r : ByteArray}
    (h : Ev (fun k => refP k p a m f (i + 1) (if 0 < i ∧ ¬ i = a + m then mk (B s ++ 58 :: hI x) else mk (B s ++ hI x))) r) : Ev (fun k => refP k p a m (f + 1) i s) r := by
  have hr := hp x (List.mem_of_getElem? hx)
  have hl := (hx_len x.toNat).1
  have hl' : (hI x).length ≤ 4 := hl
  have hz : (mk (hI x)).size = (hI x).length := by rw [size_B, B_mk]
  refine Ev.congr (fun k => by rw [refP]) (Ev.pos h8 (Ev.neg hia ?_))
  rw [gd hx]
  refine Ev.bind (piece_ref x hr.1 hr.2) ?_
  by_cases h0 : 0 < i ∧ ¬ i = a + m
  · rw [if_pos h0] at h
    refine Ev.pos h0 (Ev.pos ⟨by omega, by omega⟩ ?_)
    have e : s ++ (⟨#[58]⟩ : ByteArray) ++ mk (hI x) = mk (B s ++ 58 :: hI x) := by
      apply B_inj
      rw [B_append, B_append, B_mk, B_mk]
      show _ ++ [58] ++ _ = _
      simp
    rw [e]
    exact h
  · rw [if_neg h0] at h
    refine Ev.neg h0 (Ev.pos (by omega) ?_)
    have e : s ++ mk (hI x) = mk (B s ++ hI x) := by
      apply B_inj
      rw [B_append, B_mk, B_mk]
    rw [e]
    exact h
theorem rp_tail (p : List Int) (hp : okP p) (h8 : p.length = 8) (a m : Nat) : ∀ (rest : List Int) (i f : Nat) (s : ByteArray), p.drop i = rest → i ≤ 8 → 0 < i → a < i → a + m < i → rest.length < f → s.size ≤ 100 * i → Ev (fun k => refP k p a m f i s) (mk (B s ++ tl (rest.map hI)))
  | [], i, f, s, h, hi, h0, h1, h2, hf, hs => by
    have := drop_nil h
    obtain ⟨g, rfl⟩ : ∃ g, f = g + 1 := ⟨f - 1, by omega⟩
    refine Ev.congr (fun k => by rw [refP]) (Ev.neg (by omega) (Ev.tell ?_))
    simp only [List.map_nil, tl, List.append_nil, mk_B]
  | x :: r, i, f, s, h, hi, h0, h1, h2, hf, hs => by
    obtain ⟨e1, e2, e3⟩ := drop_cons h
    rw [List.length_cons] at hf
    obtain ⟨g, rfl⟩ : ∃ g, f = g + 1 := ⟨f - 1, by omega⟩
    have hl' : (hI x).length ≤ 4 := (hx_len x.toNat).1
    refine rp_piece p hp a m g i s (by omega) (by omega) x e2 (by omega) ?_
    rw [if_pos ⟨h0, by omega⟩]
    have ih := rp_tail p hp h8 a m r (i + 1) g (mk (B s ++ 58 :: hI x)) e3 (by omega) (by omega) (by omega) (by omega) (by omega) (by rw [size_B, B_mk, List.length_append, ← size_B, List.length_cons]; omega)
    rw [B_mk] at ih
    simp only [List.map_cons, tl]
    simp only [List.append_assoc, List.cons_append] at ih ⊢
    exact ih
theorem rp_head (p : List Int) (hp : okP p) (h8 : p.length = 8) (a m : Nat) (ha : a ≤ 8) (hm : a < 8 → 1 ≤ m) : ∀ (d i f : Nat) {r : ByteArray}, i + d = a → i ≤ a → d ≤ f →
    Ev (fun k => refP k p a m (f - d) a (mk (jn ((p.take a).map hI)))) r → Ev (fun k => refP k p a m f i (mk (jn ((p.take i).map hI)))) r
  | 0, i, f, r, h, hi, hd, z => by
    have e : i = a := by omega
    subst e
    exact z
  | d + 1, i, f, r, h, hi, hd, z => by
    obtain ⟨g, rfl⟩ : ∃ g, f = g + 1 := ⟨f - 1, by omega⟩
    obtain ⟨x, hx⟩ : ∃ x, p[i]? = some x := ⟨p[i]'(by omega), List.getElem?_eq_getElem _⟩
    have hj := jnI_len (p.take i) (by rw [List.length_take]; omega)
    refine rp_piece p hp a m g i _ (by omega) (by omega) x hx (by rw [size_B, B_mk]; omega) ?_
    have ih := rp_head p hp h8 a m ha hm d (i + 1) g (r := r) (by omega) (by omega) (by omega) (by rw [show g + 1 - (d + 1) = g - d by omega] at z; exact z)
    have et : (p.take (i + 1)).map hI = (p.take i).map hI ++ [hI x] := by rw [List.take_add_one, hx, List.map_append]; rfl
    rw [et, jn_snoc] at ih
    rw [B_mk]
    by_cases h0 : i = 0
    · subst h0
      rw [if_neg (fun q => by omega)]
      rw [if_pos (by simp)] at ih
      simpa [jn] using ih
    · rw [if_pos ⟨by omega, by omega⟩]
      rw [if_neg (fun q => by
        have := congrArg List.length q
        rw [List.length_map, List.length_take, List.length_nil] at this
        omega)] at ih
      exact ih
theorem Print6_ref (p : List Int) (hp : okP p) (h8 : p.length = 8) : Ev (fun k => sprref7_Print6.g k p) (mk (pr6 p)) := by
  have hz := zeros_both p h8
  have hrng := zerosG_rng p 0 0 0 0 (by decide) (by decide) (by decide) (by decide) (by decide)
  unfold sprref7_Print6.g pr6
  refine Ev.pos h8 ?_
  have e0 : (⟨#[]⟩ : ByteArray) = mk (jn ((p.take 0).map hI)) := rfl
  rw [e0]
  by_cases h2 : (zerosG p 0 0 0 0).2 < 2
  · rw [if_pos h2, hz.1 h2]
    refine rp_head p hp h8 8 1 (Nat.le_refl _) (by omega) 8 0 9 rfl (by omega) (by omega) ?_
    refine Ev.congr (fun k => by rw [refP]) (Ev.neg (by omega) (Ev.tell ?_))
    rw [List.take_of_length_le (by omega)]
  · rw [if_neg h2, hz.2 h2]
    generalize (zerosG p 0 0 0 0).1 = A at *
    generalize (zerosG p 0 0 0 0).2 = M at *
    obtain ⟨a, rfl⟩ : ∃ a : Nat, A = (a : Int) := ⟨A.toNat, by omega⟩
    obtain ⟨m, rfl⟩ : ∃ m : Nat, M = (m : Int) := ⟨M.toNat, by omega⟩
    have hj := jnI_len (p.take a) (by rw [List.length_take]; omega)
    have et : ((a : Int) + (m : Int)).toNat = a + m := by omega
    rw [et, Int.toNat_natCast, Int.toNat_natCast]
    show Ev (fun k => refP k p a m 9 0 (mk (jn ((p.take 0).map hI)))) _
    refine rp_head p hp h8 a m (by omega) (by omega) a 0 9 (by omega) (by omega) (by omega) ?_
    obtain ⟨g, hg⟩ : ∃ g, 9 - a = g + 1 := ⟨8 - a, by omega⟩
    rw [hg]
    refine Ev.congr (fun k => by rw [refP]) (Ev.pos (by omega) (Ev.pos rfl (Ev.pos (by rw [size_B, B_mk]; omega) ?_)))
    have ec : mk (jn ((p.take a).map hI)) ++ (⟨#[58, 58]⟩ : ByteArray) = mk (jn ((p.take a).map hI) ++ [58, 58]) := by
      apply B_inj
      rw [B_append, B_mk, B_mk]
      rfl
    rw [ec]
    by_cases he : a + m = 8
    · obtain ⟨g', rfl⟩ : ∃ g', g = g' + 1 := ⟨g - 1, by omega⟩
      refine Ev.congr (fun k => by rw [refP]) (Ev.neg (by omega) (Ev.tell ?_))
      rw [he, List.drop_of_length_le (by omega)]
      rfl
    · obtain ⟨g', rfl⟩ : ∃ g', g = g' + 1 := ⟨g - 1, by omega⟩
      obtain ⟨x, hx⟩ : ∃ x, p[a + m]? = some x := ⟨p[a + m]'(by omega), List.getElem?_eq_getElem _⟩
      refine rp_piece p hp a m g' (a + m) _ (by omega) (by omega) x hx (by rw [size_B, B_mk, List.length_append]; simp only [List.length_cons, List.length_nil]; omega) ?_
      rw [if_neg (fun q => q.2 rfl), B_mk]
      have hl' : (hI x).length ≤ 4 := (hx_len x.toNat).1
      have z := rp_tail p hp h8 a m (p.drop (a + m + 1)) (a + m + 1) g' (mk (jn ((p.take a).map hI) ++ [58, 58] ++ hI x)) rfl (by omega) (by omega) (by omega) (by omega) (by rw [List.length_drop]; omega) (by rw [size_B, B_mk, List.length_append, List.length_append]; simp only [List.length_cons, List.length_nil]; omega)
      rw [B_mk] at z
      have ed : p.drop (a + m) = x :: p.drop (a + m + 1) := by
        obtain ⟨k1, k2⟩ := List.getElem?_eq_some_iff.1 hx
        rw [List.drop_eq_getElem_cons k1, k2]
      rw [ed, List.map_cons]
      simp only [jn]
      simp only [List.append_assoc] at z ⊢
      exact z
theorem IpPrints (n : Int) (p : List Int) (hn : (Lit.int .u32 n).wf = true) (h8 : p.length = 8) (hp : ∀ z ∈ p, (Lit.int .u16 z).wf = true) : ∃ k, sprlaw7_IpPrints.f k n p = some true := by
  have hp' : okP p := fun x hx => wf_u16 (hp x hx)
  refine Ev.rounds (Ev.pos h8 (Ev.bind (Print4_prog n (wf_u32 hn)) (Ev.bind (Print4_ref n (wf_u32 hn)) (Ev.bind (Print6_prog p hp' h8) (Ev.bind (Print6_ref p hp' h8) (Ev.pos ⟨rfl, rfl⟩ (Ev.now _)))))))

end Go.Proofs.YtldkhokpedfhdaaDoor.Pure
