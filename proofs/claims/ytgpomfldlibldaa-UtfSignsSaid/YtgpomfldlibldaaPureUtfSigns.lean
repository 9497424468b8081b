/-
The law UtfSigns: any number c, as a list of one, is written if and only if it is a sign (both tests of that agree), and then as one to four bytes. No conditions beside those of the statement (c is an int of Go).
-/
import Derived.Test.YtgpomfldlibldaaQ2
set_option linter.unusedVariables false
set_option linter.unusedSimpArgs false
namespace Go.Proofs.Ytgpomfldlibldaa.Pure
open Go.RowKit Go.Proofs.Ytgpomfldlibldaa.Q Go.Proofs.YtgpomfldlibldaaW.PrintWords Go.Proofs.YtgpomfldlibldaaW.PrintLast
theorem wrap_id {x : Int} (h0 : -9223372036854775808 ≤ x) (h1 : x ≤ 9223372036854775807) : wrap64 x = x := by unfold wrap64; omega
theorem Ev.succ {α : Type} {g : Nat → Option α} {r : α} (h : Ev (fun k => g (k + 1)) r) : Ev g r := Ev.step (fun _ => rfl) h
theorem Ev.konst {α : Type} {o : Option α} {r : α} (h : o = some r) : Ev (fun _ => o) r := ⟨0, fun _ _ => h⟩
theorem Ev.at {α : Type} {g : Nat → Option α} {r : α} (K : Nat) (h : ∀ k, g (k + K) = some r) : Ev g r := ⟨K, fun n hn => by
  obtain ⟨m, rfl⟩ : ∃ m, n = m + K := ⟨n - K, by omega⟩
  exact h m⟩
theorem drop_cons {α : Type} {l : List α} {i : Nat} {c : α} {t : List α} (h : l.drop i = c :: t) : i < l.length ∧ l[i]? = some c ∧ l.drop (i + 1) = t := by
  have h1 : (l.drop i)[0]? = some c := by rw [h]; rfl
  rw [List.getElem?_drop] at h1
  simp only [Nat.add_zero] at h1
  refine ⟨(List.getElem?_eq_some_iff.1 h1).1, h1, ?_⟩
  rw [← List.drop_drop, h]; rfl
theorem drop_nil {α : Type} {l : List α} {i : Nat} (h : l.drop i = []) : l.length ≤ i := by
  simpa using h
theorem rd_of {l : List Int} {i : Nat} {c : Int} (h : l[i]? = some c) : rd l (i : Int) = c := by
  unfold rd; rw [Int.toNat_natCast, List.getD_eq_getElem?_getD, h]; rfl
theorem rdOf_of {α : Type} {d : α} {l : List α} {i : Nat} {c : α} (h : l[i]? = some c) : rdOf d l (i : Int) = c := by
  unfold rdOf; rw [Int.toNat_natCast, List.getD_eq_getElem?_getD, h]; rfl
theorem cast_succ (i : Nat) : ((i : Int) + 1) = ((i + 1 : Nat) : Int) := by omega
theorem Ev.pos {α : Type} {c : Prop} [Decidable c] {A B : Nat → Option α} {r : α} (h : c) (k : Ev A r) : Ev (fun n => if c then A n else B n) r := Ev.congr (fun _ => if_pos h) k
theorem Ev.neg {α : Type} {c : Prop} [Decidable c] {A B : Nat → Option α} {r : α} (h : ¬ c) (k : Ev B r) : Ev (fun n => if c then A n else B n) r := Ev.congr (fun _ => if_neg h) k
theorem Ev.bnd {α β : Type} {o : Option β} {a : β} {f : Nat → β → Option α} {r : α} (h : o = some a) (k : Ev (fun n => f n a) r) : Ev (fun n => o.bind (f n)) r := by
  subst h; exact k
/-- Is it a sign? -/
def sc (c : Int) : Bool := decide (0 ≤ c ∧ c ≤ 1114111 ∧ (c < 55296 ∨ 57343 < c))
theorem sc_iff {c : Int} : sc c = true ↔ 0 ≤ c ∧ c ≤ 1114111 ∧ (c < 55296 ∨ 57343 < c) := by unfold sc; exact decide_eq_true_iff
/-- A sign's bytes. -/
def en (c : Int) : List Int :=
  if c < 128 then [c] else if c < 2048 then [192 + c / 64, 128 + c % 64]
  else if c < 65536 then [224 + c / 4096, 128 + c / 64 % 64, 128 + c % 64]
  else [240 + c / 262144, 128 + c / 4096 % 64, 128 + c / 64 % 64, 128 + c % 64]
theorem en_len (c : Int) : 1 ≤ (en c).length ∧ (en c).length ≤ 4 := by
  unfold en; (repeat' split) <;> simp
def ens (l : List Int) : List Int := l.flatMap en
theorem ens_len : ∀ l : List Int, l.length ≤ (ens l).length ∧ (ens l).length ≤ 4 * l.length
  | [] => by simp [ens]
  | c :: t => by
    have h := ens_len t
    have h1 := en_len c
    simp only [ens, List.flatMap_cons, List.length_append, List.length_cons] at h ⊢
    omega
/-- Encode, as the program tells it: signs' bytes behind others, or nothing and 1. -/
def encR : List Int → List Int → List Int × Int
  | acc, [] => (acc, 0)
  | acc, c :: t => if sc c then encR (acc ++ en c) t else ([], 1)
theorem encR_ok : ∀ (l acc : List Int), (∀ c ∈ l, sc c = true) → encR acc l = (acc ++ ens l, 0)
  | [], acc, _ => by simp [encR, ens]
  | c :: t, acc, h => by
    rw [encR, if_pos (h c (by simp)), encR_ok t _ (fun x hx => h x (by simp [hx]))]
    simp [ens]
theorem encR_or : ∀ (l acc : List Int), (∀ c ∈ l, sc c = true) ∨ encR acc l = ([], 1)
  | [], acc => .inl (by simp)
  | c :: t, acc => by
    by_cases hc : sc c = true
    · rcases encR_or t (acc ++ en c) with h | h
      · exact .inl (fun x hx => (List.mem_cons.1 hx).elim (fun e => e ▸ hc) (fun hx => h x hx))
      · exact .inr (by rw [encR, if_pos hc]; exact h)
    · exact .inr (by rw [encR, if_neg hc])
/-- What a first byte tells. -/
def ld (x : Int) : Int × Int × Int :=
  if x < 128 then (0, 0, 0) else if 194 ≤ x ∧ x ≤ 223 then (1, 128, 191) else if x = 224 then (2, 160, 191)
  else if x = 237 then (2, 128, 159) else if 225 ≤ x ∧ x ≤ 239 then (2, 128, 191) else if x = 240 then (3, 144, 191)
  else if x = 244 then (3, 128, 143) else if 241 ≤ x ∧ x ≤ 243 then (3, 128, 191) else (-1, 0, 0)
/-- The bytes behind it. -/
def ct : List Int → Nat → Int → Int → Int → Int → Int × Int × Bool
  | _, 0, _, _, acc, i => (acc, i, true)
  | [], _ + 1, _, _, _, i => (65533, i, false)
  | y :: t, m + 1, lo, hi, acc, i => if y < lo ∨ y > hi then (65533, i, false) else ct t m 128 191 (acc * 64 + y % 64) (i + 1)
def nx : List Int → Int × Int × Bool
  | [] => (0, 0, false)
  | x :: t => if (ld x).1 < 0 then (65533, 1, false) else if (ld x).1 = 0 then (x, 1, true)
    else ct t (ld x).1.toNat (ld x).2.1 (ld x).2.2 (if (ld x).1 = 1 then x % 32 else if (ld x).1 = 2 then x % 16 else x % 8) 1
def bytes (b : List Int) : Prop := ∀ x ∈ b, 0 ≤ x ∧ x < 256
theorem bytes_drop {b : List Int} (h : bytes b) (n : Nat) : bytes (b.drop n) := fun x hx => h x (List.mem_of_mem_drop hx)
theorem ct_false : ∀ (t : List Int) (m : Nat) (lo hi acc i : Int), (ct t m lo hi acc i).2.2 = false → (ct t m lo hi acc i).1 = 65533 ∧ i ≤ (ct t m lo hi acc i).2.1 ∧ (ct t m lo hi acc i).2.1 ≤ i + t.length
  | _, 0, _, _, _, _ => by simp [ct]
  | [], m + 1, lo, hi, acc, i => by simp [ct]
  | y :: t, m + 1, lo, hi, acc, i => by
    by_cases h : y < lo ∨ y > hi
    · rw [ct, if_pos h]; intro _; refine ⟨rfl, Int.le_refl _, by simp only [List.length_cons]; omega⟩
    · simp only [ct, if_neg h]; intro e
      obtain ⟨h1, h2, h3⟩ := ct_false t m 128 191 _ (i + 1) e
      exact ⟨h1, by omega, by simp only [List.length_cons]; omega⟩
/-- What is none: another one stands in its place, and one byte at least is taken. -/
theorem nx_false {b : List Int} (hb : b ≠ []) (h : (nx b).2.2 = false) : (nx b).1 = 65533 ∧ 1 ≤ (nx b).2.1 ∧ (nx b).2.1 ≤ b.length := by
  cases b with
  | nil => exact absurd rfl hb
  | cons x t =>
    by_cases h1 : (ld x).1 < 0
    · rw [nx, if_pos h1]; exact ⟨rfl, Int.le_refl _, by simp only [List.length_cons]; omega⟩
    · by_cases h2 : (ld x).1 = 0
      · simp only [nx, if_neg h1, if_pos h2] at h; exact absurd h (by simp)
      · simp only [nx, if_neg h1, if_neg h2] at h ⊢
        obtain ⟨a, b, c⟩ := ct_false _ _ _ _ _ _ h
        exact ⟨a, b, by simp only [List.length_cons]; omega⟩
theorem ld_cases (x : Int) (h0 : 0 ≤ x) (h1 : x < 256) : (x < 128 ∧ ld x = (0, 0, 0)) ∨ ((194 ≤ x ∧ x ≤ 223) ∧ ld x = (1, 128, 191)) ∨ (x = 224 ∧ ld x = (2, 160, 191)) ∨ (x = 237 ∧ ld x = (2, 128, 159))
    ∨ ((225 ≤ x ∧ x ≤ 239 ∧ x ≠ 237) ∧ ld x = (2, 128, 191)) ∨ (x = 240 ∧ ld x = (3, 144, 191)) ∨ (x = 244 ∧ ld x = (3, 128, 143)) ∨ ((241 ≤ x ∧ x ≤ 243) ∧ ld x = (3, 128, 191)) ∨ (((128 ≤ x ∧ x < 194) ∨ 244 < x) ∧ ld x = (-1, 0, 0)) := by
  have h : x < 128 ∨ (194 ≤ x ∧ x ≤ 223) ∨ x = 224 ∨ x = 237 ∨ (225 ≤ x ∧ x ≤ 239 ∧ x ≠ 237) ∨ x = 240 ∨ x = 244 ∨ (241 ≤ x ∧ x ≤ 243) ∨ ((128 ≤ x ∧ x < 194) ∨ 244 < x) := by omega
  unfold ld
  rcases h with h | h | h | h | h | h | h | h | h
  · exact .inl ⟨h, if_pos h⟩
  · exact .inr (.inl ⟨h, by rw [if_neg (by omega), if_pos h]⟩)
  · exact .inr (.inr (.inl ⟨h, by rw [if_neg (by omega), if_neg (by omega), if_pos h]⟩))
  · exact .inr (.inr (.inr (.inl ⟨h, by rw [if_neg (by omega), if_neg (by omega), if_neg (by omega), if_pos h]⟩)))
  · exact .inr (.inr (.inr (.inr (.inl ⟨h, by rw [if_neg (by omega), if_neg (by omega), if_neg (by omega), if_neg (by omega), if_pos (by omega)]⟩))))
  · exact .inr (.inr (.inr (.inr (.inr (.inl ⟨h, by rw [if_neg (by omega), if_neg (by omega), if_neg (by omega), if_neg (by omega), if_neg (by omega), if_pos h]⟩)))))
  · exact .inr (.inr (.inr (.inr (.inr (.inr (.inl ⟨h, by rw [if_neg (by omega), if_neg (by omega), if_neg (by omega), if_neg (by omega), if_neg (by omega), if_neg (by omega), if_pos h]⟩))))))
  · exact .inr (.inr (.inr (.inr (.inr (.inr (.inr (.inl ⟨h, by rw [if_neg (by omega), if_neg (by omega), if_neg (by omega), if_neg (by omega), if_neg (by omega), if_neg (by omega), if_neg (by omega), if_pos h]⟩)))))))
  · exact .inr (.inr (.inr (.inr (.inr (.inr (.inr (.inr ⟨h, by rw [if_neg (by omega), if_neg (by omega), if_neg (by omega), if_neg (by omega), if_neg (by omega), if_neg (by omega), if_neg (by omega), if_neg (by omega)]⟩)))))))
theorem nx0 {x : Int} {lo hi : Int} (t : List Int) (h : ld x = (0, lo, hi)) : nx (x :: t) = (x, 1, true) := by simp [nx, h]
theorem nxm {x : Int} {lo hi : Int} (t : List Int) (h : ld x = (-1, lo, hi)) : nx (x :: t) = (65533, 1, false) := by simp [nx, h]
theorem nx1 {x : Int} {lo hi : Int} (t : List Int) (h : ld x = (1, lo, hi)) : nx (x :: t) = ct t 1 lo hi (x % 32) 1 := by simp [nx, h]
theorem nx2 {x : Int} {lo hi : Int} (t : List Int) (h : ld x = (2, lo, hi)) : nx (x :: t) = ct t 2 lo hi (x % 16) 1 := by simp [nx, h]
theorem nx3 {x : Int} {lo hi : Int} (t : List Int) (h : ld x = (3, lo, hi)) : nx (x :: t) = ct t 3 lo hi (x % 8) 1 := by simp [nx, h]
theorem ct_step {y lo hi : Int} (t : List Int) (m : Nat) (a i : Int) (h0 : lo ≤ y) (h1 : y ≤ hi) : ct (y :: t) (m + 1) lo hi a i = ct t m 128 191 (a * 64 + y % 64) (i + 1) := by
  rw [ct, if_neg (by omega)]
theorem ct_end (t : List Int) (lo hi a i : Int) : ct t 0 lo hi a i = (a, i, true) := by cases t <;> rfl
theorem ct_true {t : List Int} {m : Nat} {lo hi a i : Int} (h : (ct t (m + 1) lo hi a i).2.2 = true) : ∃ y t', t = y :: t' ∧ lo ≤ y ∧ y ≤ hi ∧ ct t (m + 1) lo hi a i = ct t' m 128 191 (a * 64 + y % 64) (i + 1) := by
  cases t with
  | nil => simp [ct] at h
  | cons y t =>
    by_cases c : y < lo ∨ y > hi
    · rw [ct, if_pos c] at h; simp at h
    · exact ⟨y, t, rfl, by omega, by omega, by rw [ct, if_neg c]⟩
theorem en1 {c : Int} (h : c < 128) : en c = [c] := by unfold en; rw [if_pos h]
theorem en2 {c : Int} (h : 128 ≤ c) (h1 : c < 2048) : en c = [192 + c / 64, 128 + c % 64] := by unfold en; rw [if_neg (by omega), if_pos h1]
theorem en3 {c : Int} (h : 2048 ≤ c) (h1 : c < 65536) : en c = [224 + c / 4096, 128 + c / 64 % 64, 128 + c % 64] := by unfold en; rw [if_neg (by omega), if_neg (by omega), if_pos h1]
theorem en4 {c : Int} (h : 65536 ≤ c) : en c = [240 + c / 262144, 128 + c / 4096 % 64, 128 + c / 64 % 64, 128 + c % 64] := by unfold en; rw [if_neg (by omega), if_neg (by omega), if_neg (by omega)]
/-- What is one: it is a sign, and its bytes are those that are taken. -/
theorem nx_true {b : List Int} (hy : bytes b) (h : (nx b).2.2 = true) : sc (nx b).1 = true ∧ b = en (nx b).1 ++ b.drop (nx b).2.1.toNat ∧ (nx b).2.1 = ((en (nx b).1).length : Int) := by
  cases b with
  | nil => simp [nx] at h
  | cons x t =>
    have hx := hy x (by simp)
    have two : ∀ {lo hi : Int}, ld x = (2, lo, hi) → 224 ≤ x → x ≤ 239 → 128 ≤ lo → hi ≤ 191 → (x = 224 → 160 ≤ lo) → (x = 237 → hi ≤ 159) → sc (nx (x :: t)).1 = true ∧ x :: t = en (nx (x :: t)).1 ++ (x :: t).drop (nx (x :: t)).2.1.toNat ∧ (nx (x :: t)).2.1 = ((en (nx (x :: t)).1).length : Int) := by
      intro lo hi hl g0 g1 g2 g3 g4 g5
      rw [nx2 t hl] at h ⊢
      obtain ⟨y, t1, rfl, a0, a1, e1⟩ := ct_true h
      rw [e1] at h ⊢
      obtain ⟨z, t2, rfl, b0, b1, e2⟩ := ct_true h
      rw [e2, ct_end]
      have E := en3 (c := (x % 16 * 64 + y % 64) * 64 + z % 64) (by omega) (by omega)
      refine ⟨sc_iff.2 (by omega), ?_, by rw [E]; rfl⟩
      rw [E]
      simp only [List.cons_append, List.nil_append]
      exact List.cons_eq_cons.2 ⟨by omega, List.cons_eq_cons.2 ⟨by omega, List.cons_eq_cons.2 ⟨by omega, rfl⟩⟩⟩
    have three : ∀ {lo hi : Int}, ld x = (3, lo, hi) → 240 ≤ x → x ≤ 244 → 128 ≤ lo → hi ≤ 191 → (x = 240 → 144 ≤ lo) → (x = 244 → hi ≤ 143) → sc (nx (x :: t)).1 = true ∧ x :: t = en (nx (x :: t)).1 ++ (x :: t).drop (nx (x :: t)).2.1.toNat ∧ (nx (x :: t)).2.1 = ((en (nx (x :: t)).1).length : Int) := by
      intro lo hi hl g0 g1 g2 g3 g4 g5
      rw [nx3 t hl] at h ⊢
      obtain ⟨y, t1, rfl, a0, a1, e1⟩ := ct_true h
      rw [e1] at h ⊢
      obtain ⟨z, t2, rfl, b0, b1, e2⟩ := ct_true h
      rw [e2] at h ⊢
      obtain ⟨w, t3, rfl, c0, c1, e3⟩ := ct_true h
      rw [e3, ct_end]
      have E := en4 (c := ((x % 8 * 64 + y % 64) * 64 + z % 64) * 64 + w % 64) (by omega)
      refine ⟨sc_iff.2 (by omega), ?_, by rw [E]; rfl⟩
      rw [E]
      simp only [List.cons_append, List.nil_append]
      exact List.cons_eq_cons.2 ⟨by omega, List.cons_eq_cons.2 ⟨by omega, List.cons_eq_cons.2 ⟨by omega, List.cons_eq_cons.2 ⟨by omega, rfl⟩⟩⟩⟩
    rcases ld_cases x hx.1 hx.2 with ⟨c, hl⟩ | ⟨c, hl⟩ | ⟨c, hl⟩ | ⟨c, hl⟩ | ⟨c, hl⟩ | ⟨c, hl⟩ | ⟨c, hl⟩ | ⟨c, hl⟩ | ⟨c, hl⟩
    · rw [nx0 t hl, en1 c]
      exact ⟨sc_iff.2 (by omega), rfl, rfl⟩
    · rw [nx1 t hl] at h ⊢
      obtain ⟨y, t1, rfl, a0, a1, e1⟩ := ct_true h
      rw [e1, ct_end]
      have E := en2 (c := x % 32 * 64 + y % 64) (by omega) (by omega)
      refine ⟨sc_iff.2 (by omega), ?_, by rw [E]; rfl⟩
      rw [E]
      simp only [List.cons_append, List.nil_append]
      exact List.cons_eq_cons.2 ⟨by omega, List.cons_eq_cons.2 ⟨by omega, rfl⟩⟩
    · exact two hl (by omega) (by omega) (by omega) (by omega) (by omega) (by omega)
    · exact two hl (by omega) (by omega) (by omega) (by omega) (by omega) (by omega)
    · exact two hl (by omega) (by omega) (by omega) (by omega) (by omega) (by omega)
    · exact three hl (by omega) (by omega) (by omega) (by omega) (by omega) (by omega)
    · exact three hl (by omega) (by omega) (by omega) (by omega) (by omega) (by omega)
    · exact three hl (by omega) (by omega) (by omega) (by omega) (by omega) (by omega)
    · rw [nxm t hl] at h; simp at h
theorem nx_en (c : Int) (r : List Int) (h : sc c = true) : nx (en c ++ r) = (c, ((en c).length : Int), true) := by
  have h' := sc_iff.1 h
  by_cases h1 : c < 128
  · rw [en1 h1]
    rcases ld_cases c (by omega) (by omega) with ⟨_, hl⟩ | ⟨_, _⟩ | ⟨_, _⟩ | ⟨_, _⟩ | ⟨_, _⟩ | ⟨_, _⟩ | ⟨_, _⟩ | ⟨_, _⟩ | ⟨_, hl⟩
    · exact nx0 r hl
    all_goals omega
  · by_cases h2 : c < 2048
    · rw [en2 (by omega) h2]
      have hl : ld (192 + c / 64) = (1, 128, 191) := by unfold ld; rw [if_neg (by omega), if_pos (by omega)]
      show nx (_ :: _ :: r) = _
      rw [nx1 _ hl, ct_step _ _ _ _ (by omega) (by omega), ct_end]
      simp only [List.length_cons, List.length_nil, Prod.mk.injEq, and_true]
      exact ⟨by omega, by omega⟩
    · by_cases h3 : c < 65536
      · rw [en3 (by omega) h3]
        show nx (_ :: _ :: _ :: r) = _
        have key : ∀ lo hi, ld (224 + c / 4096) = (2, lo, hi) → lo ≤ 128 + c / 64 % 64 → 128 + c / 64 % 64 ≤ hi → nx ((224 + c / 4096) :: (128 + c / 64 % 64) :: (128 + c % 64) :: r) = (c, (([224 + c / 4096, 128 + c / 64 % 64, 128 + c % 64] : List Int).length : Int), true) := by
          intro lo hi hl g0 g1
          rw [nx2 _ hl, ct_step _ _ _ _ g0 g1, ct_step _ _ _ _ (by omega) (by omega), ct_end]
          simp only [List.length_cons, List.length_nil, Prod.mk.injEq, and_true]
          exact ⟨by omega, by omega⟩
        rcases ld_cases (224 + c / 4096) (by omega) (by omega) with ⟨a, hl⟩ | ⟨a, hl⟩ | ⟨a, hl⟩ | ⟨a, hl⟩ | ⟨a, hl⟩ | ⟨a, hl⟩ | ⟨a, hl⟩ | ⟨a, hl⟩ | ⟨a, hl⟩
        · omega
        · omega
        · exact key _ _ hl (by omega) (by omega)
        · exact key _ _ hl (by omega) (by omega)
        · exact key _ _ hl (by omega) (by omega)
        · omega
        · omega
        · omega
        · omega
      · rw [en4 (by omega)]
        show nx (_ :: _ :: _ :: _ :: r) = _
        have key : ∀ lo hi, ld (240 + c / 262144) = (3, lo, hi) → lo ≤ 128 + c / 4096 % 64 → 128 + c / 4096 % 64 ≤ hi → nx ((240 + c / 262144) :: (128 + c / 4096 % 64) :: (128 + c / 64 % 64) :: (128 + c % 64) :: r) = (c, (([240 + c / 262144, 128 + c / 4096 % 64, 128 + c / 64 % 64, 128 + c % 64] : List Int).length : Int), true) := by
          intro lo hi hl g0 g1
          rw [nx3 _ hl, ct_step _ _ _ _ g0 g1, ct_step _ _ _ _ (by omega) (by omega), ct_step _ _ _ _ (by omega) (by omega), ct_end]
          simp only [List.length_cons, List.length_nil, Prod.mk.injEq, and_true]
          exact ⟨by omega, by omega⟩
        have e : 240 + c / 262144 = 240 ∨ 240 + c / 262144 = 244 ∨ (241 ≤ 240 + c / 262144 ∧ 240 + c / 262144 ≤ 243) := by omega
        rcases e with e | e | e
        · refine key 144 191 ?_ (by omega) (by omega)
          unfold ld; rw [if_neg (by omega), if_neg (by omega), if_neg (by omega), if_neg (by omega), if_neg (by omega), if_pos e]
        · refine key 128 143 ?_ (by omega) (by omega)
          unfold ld; rw [if_neg (by omega), if_neg (by omega), if_neg (by omega), if_neg (by omega), if_neg (by omega), if_neg (by omega), if_pos e]
        · refine key 128 191 ?_ (by omega) (by omega)
          unfold ld; rw [if_neg (by omega), if_neg (by omega), if_neg (by omega), if_neg (by omega), if_neg (by omega), if_neg (by omega), if_neg (by omega), if_pos e]
/-- Decode, as the program tells it; n: as many rounds as there are bytes. -/
def decR : Nat → List Int → List Int → Int → List Int × Int × Int
  | 0, _, acc, _ => (acc, 0, 0)
  | _ + 1, [], acc, _ => (acc, 0, 0)
  | n + 1, x :: s, acc, at_ => if (nx (x :: s)).2.2 = true then decR n ((x :: s).drop (nx (x :: s)).2.1.toNat) (acc ++ [(nx (x :: s)).1]) (at_ + (nx (x :: s)).2.1) else ([], at_, 4)
def losR : Nat → List Int → List Int → List Int
  | 0, _, acc => acc
  | _ + 1, [], acc => acc
  | n + 1, x :: s, acc => losR n ((x :: s).drop (nx (x :: s)).2.1.toNat) (acc ++ [(nx (x :: s)).1])
/-- What one step takes. -/
theorem nx_n {b : List Int} (hy : bytes b) (hb : b ≠ []) : 1 ≤ (nx b).2.1 ∧ (nx b).2.1 ≤ b.length ∧ sc (nx b).1 = true := by
  cases h : (nx b).2.2 with
  | false => obtain ⟨a, b, c⟩ := nx_false hb h; exact ⟨b, c, by rw [a]; decide⟩
  | true =>
    obtain ⟨a, e, c⟩ := nx_true hy h
    have h1 := en_len (nx b).1
    have h2 := congrArg List.length e
    rw [List.length_append] at h2
    exact ⟨by omega, by omega, a⟩
theorem drop_lt {b : List Int} (hy : bytes b) (hb : b ≠ []) : (b.drop (nx b).2.1.toNat).length < b.length := by
  have := nx_n hy hb
  rw [List.length_drop]; omega
/-- Signs' bytes are read as they. -/
theorem decR_en : ∀ (l : List Int) (n : Nat) (acc : List Int) (a : Int) , (∀ c ∈ l, sc c = true) → (ens l).length ≤ n → decR n (ens l) acc a = (acc ++ l, 0, 0)
  | [], n, acc, a, _, _ => by cases n <;> simp [ens, decR]
  | c :: t, n, acc, a, hl, hn => by
    have h1 := en_len c
    have hc := hl c (by simp)
    have e : ens (c :: t) = en c ++ ens t := by simp [ens]
    have hnx := nx_en c (ens t) hc
    have hd : (en c ++ ens t).drop ((en c).length : Int).toNat = ens t := by rw [Int.toNat_natCast, List.drop_left]
    rw [e] at hn ⊢
    rw [List.length_append] at hn
    obtain ⟨n, rfl⟩ : ∃ m, n = m + 1 := ⟨n - 1, by omega⟩
    obtain ⟨x, s, hxs⟩ : ∃ x s, en c ++ ens t = x :: s := by
      cases hq : en c with
      | nil => rw [hq] at h1; simp at h1
      | cons x s => exact ⟨x, s ++ ens t, rfl⟩
    rw [hxs] at hnx hd ⊢
    rw [decR, if_pos (by rw [hnx]), hnx]
    simp only
    rw [hd, decR_en t n _ _ (fun x hx => hl x (by simp [hx])) (by omega)]
    simp
theorem losR_en : ∀ (l : List Int) (n : Nat) (acc : List Int) , (∀ c ∈ l, sc c = true) → (ens l).length ≤ n → losR n (ens l) acc = acc ++ l
  | [], n, acc, _, _ => by cases n <;> simp [ens, losR]
  | c :: t, n, acc, hl, hn => by
    have h1 := en_len c
    have hc := hl c (by simp)
    have e : ens (c :: t) = en c ++ ens t := by simp [ens]
    have hnx := nx_en c (ens t) hc
    have hd : (en c ++ ens t).drop ((en c).length : Int).toNat = ens t := by rw [Int.toNat_natCast, List.drop_left]
    rw [e] at hn ⊢
    rw [List.length_append] at hn
    obtain ⟨n, rfl⟩ : ∃ m, n = m + 1 := ⟨n - 1, by omega⟩
    obtain ⟨x, s, hxs⟩ : ∃ x s, en c ++ ens t = x :: s := by
      cases hq : en c with
      | nil => rw [hq] at h1; simp at h1
      | cons x s => exact ⟨x, s ++ ens t, rfl⟩
    rw [hxs] at hnx hd ⊢
    rw [losR, hnx]
    simp only
    rw [hd, losR_en t n _ (fun x hx => hl x (by simp [hx])) (by omega)]
    simp
/-- What Decode reads, or the place where it ends. -/
theorem decR_or : ∀ (n : Nat) (b acc : List Int) (a : Int), bytes b → b.length ≤ n → (∃ v, decR n b acc a = (acc ++ v, 0, 0) ∧ (∀ c ∈ v, sc c = true) ∧ b = ens v) ∨ (∃ i, decR n b acc a = ([], i, 4) ∧ a ≤ i ∧ i < a + b.length)
  | 0, b, acc, a, _, hn => .inl ⟨[], by simp [decR], by simp, by cases b <;> simp_all [ens]⟩
  | n + 1, [], acc, a, _, _ => .inl ⟨[], by simp [decR], by simp, by simp [ens]⟩
  | n + 1, x :: s, acc, a, hy, hn => by
    have hk := nx_n hy (by simp)
    have hlt := drop_lt hy (by simp)
    rw [decR]
    by_cases h : (nx (x :: s)).2.2 = true
    · rw [if_pos h]
      obtain ⟨h1, h2, h3⟩ := nx_true hy h
      rcases decR_or n ((x :: s).drop (nx (x :: s)).2.1.toNat) (acc ++ [(nx (x :: s)).1]) (a + (nx (x :: s)).2.1) (bytes_drop hy _) (by omega) with ⟨v, e, hv, hb⟩ | ⟨i, e, h4, h5⟩
      · refine .inl ⟨(nx (x :: s)).1 :: v, by rw [e]; simp, ?_, ?_⟩
        · exact fun c hc => (List.mem_cons.1 hc).elim (fun e => e ▸ h1) (fun hc => hv c hc)
        · have h2' := h2
          rw [hb] at h2'
          exact h2'.trans (by simp [ens])
      · refine .inr ⟨i, e, by omega, ?_⟩
        rw [List.length_drop] at h5
        omega
    · rw [if_neg h]
      exact .inr ⟨a, rfl, by omega, by simp only [List.length_cons]; omega⟩
theorem losR_sc : ∀ (n : Nat) (b acc : List Int), bytes b → (∀ c ∈ acc, sc c = true) → (∀ c ∈ losR n b acc, sc c = true) ∧ (losR n b acc).length ≤ acc.length + b.length
  | 0, b, acc, _, ha => ⟨ha, by simp [losR]⟩
  | n + 1, [], acc, _, ha => ⟨ha, by simp [losR]⟩
  | n + 1, x :: s, acc, hy, ha => by
    have hk := nx_n hy (by simp)
    have hlt := drop_lt hy (by simp)
    rw [losR]
    obtain ⟨h1, h2⟩ := losR_sc n ((x :: s).drop (nx (x :: s)).2.1.toNat) (acc ++ [(nx (x :: s)).1]) (bytes_drop hy _) (by
      intro c hc
      rcases List.mem_append.1 hc with hc | hc
      · exact ha c hc
      · rw [List.mem_singleton.1 hc]; exact hk.2.2)
    exact ⟨h1, by simp only [List.length_append, List.length_cons, List.length_nil] at h2 hlt ⊢; omega⟩
theorem ct_ge : ∀ (t : List Int) (m : Nat) (lo hi acc i : Int), i ≤ (ct t m lo hi acc i).2.1
  | _, 0, _, _, _, _ => by rw [ct_end]; exact Int.le_refl _
  | [], m + 1, lo, hi, acc, i => by simp [ct]
  | y :: t, m + 1, lo, hi, acc, i => by
    by_cases h : y < lo ∨ y > hi
    · rw [ct, if_pos h]; exact Int.le_refl _
    · rw [ct, if_neg h]
      have := ct_ge t m 128 191 (acc * 64 + y % 64) (i + 1)
      omega
theorem nx_ge (x : Int) (t : List Int) : 1 ≤ (nx (x :: t)).2.1 := by
  rw [nx]
  split
  · exact Int.le_refl _
  · split
    · exact Int.le_refl _
    · exact ct_ge _ _ _ _ _ _
theorem drop_le (x : Int) (s : List Int) : ((x :: s).drop (nx (x :: s)).2.1.toNat).length ≤ s.length := by
  have := nx_ge x s
  rw [List.length_drop, List.length_cons]; omega
/-- More rounds than bytes tell the same. -/
theorem losR_any : ∀ (n m : Nat) (b acc : List Int), b.length ≤ n → b.length ≤ m → losR n b acc = losR m b acc
  | 0, m, [], acc, _, _ => by cases m <;> rfl
  | n + 1, m, [], acc, _, _ => by cases m <;> rfl
  | 0, m, x :: s, acc, h, _ => by simp at h
  | n + 1, 0, x :: s, acc, _, h => by simp at h
  | n + 1, m + 1, x :: s, acc, h, h' => by
    have hd := drop_le x s
    simp only [List.length_cons] at h h'
    rw [losR, losR]
    exact losR_any n m _ _ (by omega) (by omega)
theorem losR_more (n : Nat) (b acc : List Int) (h : b.length ≤ n) : losR n b acc = losR b.length b acc := losR_any n b.length b acc h (Nat.le_refl _)
theorem losR_acc : ∀ (n : Nat) (b acc : List Int), losR n b acc = acc ++ losR n b []
  | 0, b, acc => by simp [losR]
  | n + 1, [], acc => by simp [losR]
  | n + 1, x :: s, acc => by
    rw [losR, losR, losR_acc n _ (acc ++ _), losR_acc n _ ([] ++ _)]
    simp
theorem ens_bytes {l : List Int} (h : ∀ c ∈ l, sc c = true) : bytes (ens l) := by
  intro x hx
  obtain ⟨c, hc, hx⟩ := List.mem_flatMap.1 hx
  have h' := sc_iff.1 (h c hc)
  unfold en at hx
  (repeat' split at hx) <;> simp only [List.mem_cons, List.not_mem_nil, or_false] at hx <;> omega
theorem i64w (n : Int) (h₀ : 0 ≤ n) (h₁ : n < 2 ^ 63) : IntKind.i64.wrap n = n := by rw [IntKind.wrap_i64]; omega
theorem and63 (x : Int) (h0 : 0 ≤ x) (h1 : x < 9223372036854775808) : Go.bits .and .i64 x 63 = x % 64 := Go.bits_mask .i64 63 (by decide) i64w 6 (by decide) x h0 h1
theorem and31 (x : Int) (h0 : 0 ≤ x) (h1 : x < 9223372036854775808) : Go.bits .and .i64 x 31 = x % 32 := Go.bits_mask .i64 63 (by decide) i64w 5 (by decide) x h0 h1
theorem and15 (x : Int) (h0 : 0 ≤ x) (h1 : x < 9223372036854775808) : Go.bits .and .i64 x 15 = x % 16 := Go.bits_mask .i64 63 (by decide) i64w 4 (by decide) x h0 h1
theorem and7 (x : Int) (h0 : 0 ≤ x) (h1 : x < 9223372036854775808) : Go.bits .and .i64 x 7 = x % 8 := Go.bits_mask .i64 63 (by decide) i64w 3 (by decide) x h0 h1
theorem or128 (y : Int) (h0 : 0 ≤ y) (h1 : y < 64) : Go.bits .or .i64 128 y = 128 + y :=
  Go.bits_join .i64 63 (by decide) i64w 6 128 y (by decide) (by decide) (by decide) h0 h1 (by omega)
theorem or192 (y : Int) (h0 : 0 ≤ y) (h1 : y < 32) : Go.bits .or .i64 192 y = 192 + y :=
  Go.bits_join .i64 63 (by decide) i64w 5 192 y (by decide) (by decide) (by decide) h0 h1 (by omega)
theorem or224 (y : Int) (h0 : 0 ≤ y) (h1 : y < 16) : Go.bits .or .i64 224 y = 224 + y :=
  Go.bits_join .i64 63 (by decide) i64w 4 224 y (by decide) (by decide) (by decide) h0 h1 (by omega)
theorem or240 (y : Int) (h0 : 0 ≤ y) (h1 : y < 8) : Go.bits .or .i64 240 y = 240 + y :=
  Go.bits_join .i64 63 (by decide) i64w 3 240 y (by decide) (by decide) (by decide) h0 h1 (by omega)
theorem orsix (x y : Int) (hx : 0 ≤ x) (hx1 : x < 100000000000000000) (h0 : 0 ≤ y) (h1 : y < 64) : Go.bits .or .i64 (x * 64) y = x * 64 + y :=
  Go.bits_join .i64 63 (by decide) i64w 6 (x * 64) y (by omega) (by omega) (by omega) h0 h1 (by omega)
theorem Scalar_ok (c : Int) : utf_Scalar.f c = some (sc c) := by
  unfold utf_Scalar.f sc
  by_cases h1 : c ≥ 0 <;> by_cases h2 : c ≤ 1114111 <;> by_cases h3 : c < 55296 <;> simp [h1, h2, h3] <;> omega
theorem lay_ok (l : List Int) (c : Int) (h : sc c = true) (hl : l.length < 140737488355000) : utf_lay.f l c = some (l ++ en c) := by
  have h' := sc_iff.1 h
  unfold utf_lay.f en
  by_cases h1 : c < 128
  · rw [if_pos h1, if_pos h1, if_pos (by omega), Int.emod_eq_of_lt (by omega) (by omega)]
  · rw [if_neg h1, if_neg h1, and63 c (by omega) (by omega), and63 (c / 64) (by omega) (by omega), and63 (c / 4096) (by omega) (by omega), or128 (c % 64) (by omega) (by omega), or128 (c / 64 % 64) (by omega) (by omega), or128 (c / 4096 % 64) (by omega) (by omega)]
    by_cases h2 : c < 2048
    · rw [if_pos h2, if_pos h2, or192 (c / 64) (by omega) (by omega), Int.emod_eq_of_lt (a := 192 + c / 64) (by omega) (by omega), Int.emod_eq_of_lt (a := 128 + c % 64) (by omega) (by omega)]
      simp only [Option.bind_some, List.length_cons, List.length_nil]
      rw [if_pos (by omega)]
    · rw [if_neg h2, if_neg h2]
      by_cases h3 : c < 65536
      · rw [if_pos h3, if_pos h3, or224 (c / 4096) (by omega) (by omega), Int.emod_eq_of_lt (a := 224 + c / 4096) (by omega) (by omega), Int.emod_eq_of_lt (a := 128 + c / 64 % 64) (by omega) (by omega), Int.emod_eq_of_lt (a := 128 + c % 64) (by omega) (by omega)]
        simp only [Option.bind_some, List.length_cons, List.length_nil]
        rw [if_pos (by omega)]
      · rw [if_neg h3, if_neg h3, or240 (c / 262144) (by omega) (by omega), Int.emod_eq_of_lt (a := 240 + c / 262144) (by omega) (by omega), Int.emod_eq_of_lt (a := 128 + c / 4096 % 64) (by omega) (by omega), Int.emod_eq_of_lt (a := 128 + c / 64 % 64) (by omega) (by omega), Int.emod_eq_of_lt (a := 128 + c % 64) (by omega) (by omega)]
        simp only [Option.bind_some, List.length_cons, List.length_nil]
        rw [if_pos (by omega)]
theorem enc_loop (l : List Int) (hl : l.length ≤ 1000000) : ∀ (suf : List Int) (i : Nat) (acc : List Int), l.drop i = suf → acc.length ≤ 4 * i →
    Ev (fun k => utf_Encode.l0 k acc l (l.length : Int) (i : Int)) (encR acc suf)
  | [], i, acc, hs, ha => by
    have := drop_nil hs
    refine Ev.succ (Ev.neg (by omega) (Ev.now _))
  | c :: t, i, acc, hs, ha => by
    obtain ⟨hi, hc, ht⟩ := drop_cons hs
    refine Ev.succ (Ev.pos (by omega) (Ev.pos (by omega) (Ev.pos (by omega) ?_)))
    rw [rd_of hc]
    refine Ev.bnd (Scalar_ok c) ?_
    by_cases h : sc c = true
    · rw [encR, if_pos h]
      refine Ev.pos h (Ev.bnd (lay_ok acc c h (by omega)) ?_)
      rw [wrap_id (by omega) (by omega), cast_succ]
      exact enc_loop l hl t (i + 1) _ ht (by have := en_len c; simp only [List.length_append]; omega)
    · rw [encR, if_neg h]
      exact Ev.neg h (Ev.now _)
theorem Encode_ok (l : List Int) (hl : l.length ≤ 1000000) : Ev (fun k => utf_Encode.f k l) (encR [] l) := by
  unfold utf_Encode.f
  exact enc_loop l hl l 0 [] rfl (by simp)
theorem first_ok : Ev (fun k => sprlaw2_first.f k) true := Ev.of (fun k => sprlaw2_first.mono k) (k := 30) (by kernel_rfl)
theorem ScalarR_ok (c : Int) : sprref1_Scalar.f c = some (sc c) := by
  unfold sprref1_Scalar.f sc
  by_cases h1 : c ≥ 0 <;> by_cases h2 : c ≤ 1114111 <;> by_cases h3 : c < 55296 <;> simp [h1, h2, h3] <;> omega
theorem UtfSigns : sprlaw2_UtfSigns.Pure := by
  intro c hc
  refine Ev.rounds ?_
  unfold sprlaw2_UtfSigns.f
  refine Ev.bind first_ok (Ev.pos rfl (Ev.bind (Encode_ok [c] (by simp)) (Ev.bind first_ok (Ev.pos rfl (Ev.bnd (Scalar_ok c) (Ev.bnd (ScalarR_ok c) (Ev.pos (by simp) ?_)))))))
  by_cases h : sc c = true
  · have e : encR [] [c] = (en c, 0) := by simp [encR, h]
    have hl := en_len c
    rw [e]
    refine Ev.konst ?_
    rw [h]
    exact (if_pos rfl).trans ((if_pos rfl).trans ((if_pos (by show ((en c).length : Int) ≥ 1; omega)).trans (congrArg some (decide_eq_true (by show ((en c).length : Int) ≤ 4; omega)))))
  · have e : encR [] [c] = ([], 1) := by simp [encR, h]
    rw [e]
    exact Ev.konst (by simp [h])

end Go.Proofs.Ytgpomfldlibldaa.Pure
