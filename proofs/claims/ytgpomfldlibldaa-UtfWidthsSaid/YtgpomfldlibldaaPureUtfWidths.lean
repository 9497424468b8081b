/-
The law UtfWidths: a sign has one byte below 80, two below 800, three below 10000 and else four (all by digits of 16); its first byte tells how many, the others lie from 80 to BF; a form that is too long is none. No conditions beside those of the statement (c is an int of Go).
-/
import Derived.Test.YtgpomfldlibldaaQ3
set_option linter.unusedVariables false
set_option linter.unusedSimpArgs false
namespace Go.Proofs.Ytgpomfldlibldaa.Pure
open Go.RowKit Go.Proofs.Ytgpomfldlibldaa.Q Go.Proofs.YtgpomfldlibldaaW.PrintWords Go.Proofs.YtgpomfldlibldaaW.PrintLast
theorem wrap_id {x : Int} (h0 : -9223372036854775808 ≤ x) (h1 : x ≤ 9223372036854775807) : wrap64 x = x := by unfold wrap64; omega
theorem Ev.succ {α : Type} {g : Nat → Option α} {r : α} (h : Ev (fun k => g (k + 1)) r) : Ev g r := Ev.step (fun _ => rfl) h
theorem Ev.konst {α : Type} {o : Option α} {r : α} (h : o = some r) : Ev (fun _ => o) r := ⟨0, fun _ _ => h⟩
theorem Ev.at {α : Type} {g : Nat → Option α} {r : α} (K : Nat) (h : ∀ k, g (k + K) = some r) : Ev g r := ⟨K, fun n hn => by
  obtain ⟨m, rfl⟩ : ∃ m, n = m + K := ⟨n - K, by omega⟩
  exact h m⟩
theorem drop_cons {α : Type} {l : List α} {i : Nat} {c : α} {t : List α} (h : l.drop i = c :: t) : i < l.length ∧ l[i]? = some c ∧ l.drop (i + 1) = t := by
  have h1 : (l.drop i)[0]? = some c := by rw [h]; rfl
  rw [List.getElem?_drop] at h1
  simp only [Nat.add_zero] at h1
  refine ⟨(List.getElem?_eq_some_iff.1 h1).1, h1, ?_⟩
  rw [← List.drop_drop, h]; rfl
theorem drop_nil {α : Type} {l : List α} {i : Nat} (h : l.drop i = []) : l.length ≤ i := by
  simpa using h
theorem rd_of {l : List Int} {i : Nat} {c : Int} (h : l[i]? = some c) : rd l (i : Int) = c := by
  unfold rd; rw [Int.toNat_natCast, List.getD_eq_getElem?_getD, h]; rfl
theorem rdOf_of {α : Type} {d : α} {l : List α} {i : Nat} {c : α} (h : l[i]? = some c) : rdOf d l (i : Int) = c := by
  unfold rdOf; rw [Int.toNat_natCast, List.getD_eq_getElem?_getD, h]; rfl
theorem cast_succ (i : Nat) : ((i : Int) + 1) = ((i + 1 : Nat) : Int) := by omega
theorem Ev.pos {α : Type} {c : Prop} [Decidable c] {A B : Nat → Option α} {r : α} (h : c) (k : Ev A r) : Ev (fun n => if c then A n else B n) r := Ev.congr (fun _ => if_pos h) k
theorem Ev.neg {α : Type} {c : Prop} [Decidable c] {A B : Nat → Option α} {r : α} (h : ¬ c) (k : Ev B r) : Ev (fun n => if c then A n else B n) r := Ev.congr (fun _ => if_neg h) k
theorem Ev.bnd {α β : Type} {o : Option β} {a : β} {f : Nat → β → Option α} {r : α} (h : o = some a) (k : Ev (fun n => f n a) r) : Ev (fun n => o.bind (f n)) r := by
  subst h; exact k
/-- Is it a sign? -/
def sc (c : Int) : Bool := decide (0 ≤ c ∧ c ≤ 1114111 ∧ (c < 55296 ∨ 57343 < c))
theorem sc_iff {c : Int} : sc c = true ↔ 0 ≤ c ∧ c ≤ 1114111 ∧ (c < 55296 ∨ 57343 < c) := by unfold sc; exact decide_eq_true_iff
/-- A sign's bytes. -/
def en (c : Int) : List Int :=
  if c < 128 then [c] else if c < 2048 then [192 + c / 64, 128 + c % 64]
  else if c < 65536 then [224 + c / 4096, 128 + c / 64 % 64, 128 + c % 64]
  else [240 + c / 262144, 128 + c / 4096 % 64, 128 + c / 64 % 64, 128 + c % 64]
theorem en_len (c : Int) : 1 ≤ (en c).length ∧ (en c).length ≤ 4 := by
  unfold en; (repeat' split) <;> simp
def ens (l : List Int) : List Int := l.flatMap en
theorem ens_len : ∀ l : List Int, l.length ≤ (ens l).length ∧ (ens l).length ≤ 4 * l.length
  | [] => by simp [ens]
  | c :: t => by
    have h := ens_len t
    have h1 := en_len c
    simp only [ens, List.flatMap_cons, List.length_append, List.length_cons] at h ⊢
    omega
/-- Encode, as the program tells it: signs' bytes behind others, or nothing and 1. -/
def encR : List Int → List Int → List Int × Int
  | acc, [] => (acc, 0)
  | acc, c :: t => if sc c then encR (acc ++ en c) t else ([], 1)
theorem encR_ok : ∀ (l acc : List Int), (∀ c ∈ l, sc c = true) → encR acc l = (acc ++ ens l, 0)
  | [], acc, _ => by simp [encR, ens]
  | c :: t, acc, h => by
    rw [encR, if_pos (h c (by simp)), encR_ok t _ (fun x hx => h x (by simp [hx]))]
    simp [ens]
theorem encR_or : ∀ (l acc : List Int), (∀ c ∈ l, sc c = true) ∨ encR acc l = ([], 1)
  | [], acc => .inl (by simp)
  | c :: t, acc => by
    by_cases hc : sc c = true
    · rcases encR_or t (acc ++ en c) with h | h
      · exact .inl (fun x hx => (List.mem_cons.1 hx).elim (fun e => e ▸ hc) (fun hx => h x hx))
      · exact .inr (by rw [encR, if_pos hc]; exact h)
    · exact .inr (by rw [encR, if_neg hc])
/-- What a first byte tells. -/
def ld (x : Int) : Int × Int × Int :=
  if x < 128 then (0, 0, 0) else if 194 ≤ x ∧ x ≤ 223 then (1, 128, 191) else if x = 224 then (2, 160, 191)
  else if x = 237 then (2, 128, 159) else if 225 ≤ x ∧ x ≤ 239 then (2, 128, 191) else if x = 240 then (3, 144, 191)
  else if x = 244 then (3, 128, 143) else if 241 ≤ x ∧ x ≤ 243 then (3, 128, 191) else (-1, 0, 0)
/-- The bytes behind it. -/
def ct : List Int → Nat → Int → Int → Int → Int → Int × Int × Bool
  | _, 0, _, _, acc, i => (acc, i, true)
  | [], _ + 1, _, _, _, i => (65533, i, false)
  | y :: t, m + 1, lo, hi, acc, i => if y < lo ∨ y > hi then (65533, i, false) else ct t m 128 191 (acc * 64 + y % 64) (i + 1)
def nx : List Int → Int × Int × Bool
  | [] => (0, 0, false)
  | x :: t => if (ld x).1 < 0 then (65533, 1, false) else if (ld x).1 = 0 then (x, 1, true)
    else ct t (ld x).1.toNat (ld x).2.1 (ld x).2.2 (if (ld x).1 = 1 then x % 32 else if (ld x).1 = 2 then x % 16 else x % 8) 1
def bytes (b : List Int) : Prop := ∀ x ∈ b, 0 ≤ x ∧ x < 256
theorem bytes_drop {b : List Int} (h : bytes b) (n : Nat) : bytes (b.drop n) := fun x hx => h x (List.mem_of_mem_drop hx)
theorem ct_false : ∀ (t : List Int) (m : Nat) (lo hi acc i : Int), (ct t m lo hi acc i).2.2 = false → (ct t m lo hi acc i).1 = 65533 ∧ i ≤ (ct t m lo hi acc i).2.1 ∧ (ct t m lo hi acc i).2.1 ≤ i + t.length
  | _, 0, _, _, _, _ => by simp [ct]
  | [], m + 1, lo, hi, acc, i => by simp [ct]
  | y :: t, m + 1, lo, hi, acc, i => by
    by_cases h : y < lo ∨ y > hi
    · rw [ct, if_pos h]; intro _; refine ⟨rfl, Int.le_refl _, by simp only [List.length_cons]; omega⟩
    · simp only [ct, if_neg h]; intro e
      obtain ⟨h1, h2, h3⟩ := ct_false t m 128 191 _ (i + 1) e
      exact ⟨h1, by omega, by simp only [List.length_cons]; omega⟩
/-- What is none: another one stands in its place, and one byte at least is taken. -/
theorem nx_false {b : List Int} (hb : b ≠ []) (h : (nx b).2.2 = false) : (nx b).1 = 65533 ∧ 1 ≤ (nx b).2.1 ∧ (nx b).2.1 ≤ b.length := by
  cases b with
  | nil => exact absurd rfl hb
  | cons x t =>
    by_cases h1 : (ld x).1 < 0
    · rw [nx, if_pos h1]; exact ⟨rfl, Int.le_refl _, by simp only [List.length_cons]; omega⟩
    · by_cases h2 : (ld x).1 = 0
      · simp only [nx, if_neg h1, if_pos h2] at h; exact absurd h (by simp)
      · simp only [nx, if_neg h1, if_neg h2] at h ⊢
        obtain ⟨a, b, c⟩ := ct_false _ _ _ _ _ _ h
        exact ⟨a, b, by simp only [List.length_cons]; omega⟩
theorem ld_cases (x : Int) (h0 : 0 ≤ x) (h1 : x < 256) : (x < 128 ∧ ld x = (0, 0, 0)) ∨ ((194 ≤ x ∧ x ≤ 223) ∧ ld x = (1, 128, 191)) ∨ (x = 224 ∧ ld x = (2, 160, 191)) ∨ (x = 237 ∧ ld x = (2, 128, 159))
    ∨ ((225 ≤ x ∧ x ≤ 239 ∧ x ≠ 237) ∧ ld x = (2, 128, 191)) ∨ (x = 240 ∧ ld x = (3, 144, 191)) ∨ (x = 244 ∧ ld x = (3, 128, 143)) ∨ ((241 ≤ x ∧ x ≤ 243) ∧ ld x = (3, 128, 191)) ∨ (((128 ≤ x ∧ x < 194) ∨ 244 < x) ∧ ld x = (-1, 0, 0)) := by
  have h : x < 128 ∨ (194 ≤ x ∧ x ≤ 223) ∨ x = 224 ∨ x = 237 ∨ (225 ≤ x ∧ x ≤ 239 ∧ x ≠ 237) ∨ x = 240 ∨ x = 244 ∨ (241 ≤ x ∧ x ≤ 243) ∨ ((128 ≤ x ∧ x < 194) ∨ 244 < x) := by omega
  unfold ld
  rcases h with h | h | h | h | h | h | h | h | h
  · exact .inl ⟨h, if_pos h⟩
  · exact .inr (.inl ⟨h, by rw [if_neg (by omega), if_pos h]⟩)
  · exact .inr (.inr (.inl ⟨h, by rw [if_neg (by omega), if_neg (by omega), if_pos h]⟩))
  · exact .inr (.inr (.inr (.inl ⟨h, by rw [if_neg (by omega), if_neg (by omega), if_neg (by omega), if_pos h]⟩)))
  · exact .inr (.inr (.inr (.inr (.inl ⟨h, by rw [if_neg (by omega), if_neg (by omega), if_neg (by omega), if_neg (by omega), if_pos (by omega)]⟩))))
  · exact .inr (.inr (.inr (.inr (.inr (.inl ⟨h, by rw [if_neg (by omega), if_neg (by omega), if_neg (by omega), if_neg (by omega), if_neg (by omega), if_pos h]⟩)))))
  · exact .inr (.inr (.inr (.inr (.inr (.inr (.inl ⟨h, by rw [if_neg (by omega), if_neg (by omega), if_neg (by omega), if_neg (by omega), if_neg (by omega), if_neg (by omega), if_pos h]⟩))))))
  · exact .inr (.inr (.inr (.inr (.inr (.inr (.inr (.inl ⟨h, by rw [if_neg (by omega), if_neg (by omega), if_neg (by omega), if_neg (by omega), if_neg (by omega), if_neg (by omega), if_neg (by omega), if_pos h]⟩)))))))
  · exact .inr (.inr (.inr (.inr (.inr (.inr (.inr (.inr ⟨h, by rw [if_neg (by omega), if_neg (by omega), if_neg (by omega), if_neg (by omega), if_neg (by omega), if_neg (by omega), if_neg (by omega), if_neg (by omega)]⟩)))))))
theorem nx0 {x : Int} {lo hi : Int} (t : List Int) (h : ld x = (0, lo, hi)) : nx (x :: t) = (x, 1, true) := by simp [nx, h]
theorem nxm {x : Int} {lo hi : Int} (t : List Int) (h : ld x = (-1, lo, hi)) : nx (x :: t) = (65533, 1, false) := by simp [nx, h]
theorem nx1 {x : Int} {lo hi : Int} (t : List Int) (h : ld x = (1, lo, hi)) : nx (x :: t) = ct t 1 lo hi (x % 32) 1 := by simp [nx, h]
theorem nx2 {x : Int} {lo hi : Int} (t : List Int) (h : ld x = (2, lo, hi)) : nx (x :: t) = ct t 2 lo hi (x % 16) 1 := by simp [nx, h]
theorem nx3 {x : Int} {lo hi : Int} (t : List Int) (h : ld x = (3, lo, hi)) : nx (x :: t) = ct t 3 lo hi (x % 8) 1 := by simp [nx, h]
theorem ct_step {y lo hi : Int} (t : List Int) (m : Nat) (a i : Int) (h0 : lo ≤ y) (h1 : y ≤ hi) : ct (y :: t) (m + 1) lo hi a i = ct t m 128 191 (a * 64 + y % 64) (i + 1) := by
  rw [ct, if_neg (by omega)]
theorem ct_end (t : List Int) (lo hi a i : Int) : ct t 0 lo hi a i = (a, i, true) := by cases t <;> rfl
theorem ct_true {t : List Int} {m : Nat} {lo hi a i : Int} (h : (ct t (m + 1) lo hi a i).2.2 = true) : ∃ y t', t = y :: t' ∧ lo ≤ y ∧ y ≤ hi ∧ ct t (m + 1) lo hi a i = ct t' m 128 191 (a * 64 + y % 64) (i + 1) := by
  cases t with
  | nil => simp [ct] at h
  | cons y t =>
    by_cases c : y < lo ∨ y > hi
    · rw [ct, if_pos c] at h; simp at h
    · exact ⟨y, t, rfl, by omega, by omega, by rw [ct, if_neg c]⟩
theorem en1 {c : Int} (h : c < 128) : en c = [c] := by unfold en; rw [if_pos h]
theorem en2 {c : Int} (h : 128 ≤ c) (h1 : c < 2048) : en c = [192 + c / 64, 128 + c % 64] := by unfold en; rw [if_neg (by omega), if_pos h1]
theorem en3 {c : Int} (h : 2048 ≤ c) (h1 : c < 65536) : en c = [224 + c / 4096, 128 + c / 64 % 64, 128 + c % 64] := by unfold en; rw [if_neg (by omega), if_neg (by omega), if_pos h1]
theorem en4 {c : Int} (h : 65536 ≤ c) : en c = [240 + c / 262144, 128 + c / 4096 % 64, 128 + c / 64 % 64, 128 + c % 64] := by unfold en; rw [if_neg (by omega), if_neg (by omega), if_neg (by omega)]
/-- What is one: it is a sign, and its bytes are those that are taken. -/
theorem nx_true {b : List Int} (hy : bytes b) (h : (nx b).2.2 = true) : sc (nx b).1 = true ∧ b = en (nx b).1 ++ b.drop (nx b).2.1.toNat ∧ (nx b).2.1 = ((en (nx b).1).length : Int) := by
  cases b with
  | nil => simp [nx] at h
  | cons x t =>
    have hx := hy x (by simp)
    have two : ∀ {lo hi : Int}, ld x = (2, lo, hi) → 224 ≤ x → x ≤ 239 → 128 ≤ lo → hi ≤ 191 → (x = 224 → 160 ≤ lo) → (x = 237 → hi ≤ 159) → sc (nx (x :: t)).1 = true ∧ x :: t = en (nx (x :: t)).1 ++ (x :: t).drop (nx (x :: t)).2.1.toNat ∧ (nx (x :: t)).2.1 = ((en (nx (x :: t)).1).length : Int) := by
      intro lo hi hl g0 g1 g2 g3 g4 g5
      rw [nx2 t hl] at h ⊢
      obtain ⟨y, t1, rfl, a0, a1, e1⟩ := ct_true h
      rw [e1] at h ⊢
      obtain ⟨z, t2, rfl, b0, b1, e2⟩ := ct_true h
      rw [e2, ct_end]
      have E := en3 (c := (x % 16 * 64 + y % 64) * 64 + z % 64) (by omega) (by omega)
      refine ⟨sc_iff.2 (by omega), ?_, by rw [E]; rfl⟩
      rw [E]
      simp only [List.cons_append, List.nil_append]
      exact List.cons_eq_cons.2 ⟨by omega, List.cons_eq_cons.2 ⟨by omega, List.cons_eq_cons.2 ⟨by omega, rfl⟩⟩⟩
    have three : ∀ {lo hi : Int}, ld x = (3, lo, hi) → 240 ≤ x → x ≤ 244 → 128 ≤ lo → hi ≤ 191 → (x = 240 → 144 ≤ lo) → (x = 244 → hi ≤ 143) → sc (nx (x :: t)).1 = true ∧ x :: t = en (nx (x :: t)).1 ++ (x :: t).drop (nx (x :: t)).2.1.toNat ∧ (nx (x :: t)).2.1 = ((en (nx (x :: t)).1).length : Int) := by
      intro lo hi hl g0 g1 g2 g3 g4 g5
      rw [nx3 t hl] at h ⊢
      obtain ⟨y, t1, rfl, a0, a1, e1⟩ := ct_true h
      rw [e1] at h ⊢
      obtain ⟨z, t2, rfl, b0, b1, e2⟩ := ct_true h
      rw [e2] at h ⊢
      obtain ⟨w, t3, rfl, c0, c1, e3⟩ := ct_true h
      rw [e3, ct_end]
      have E := en4 (c := ((x % 8 * 64 + y % 64) * 64 + z % 64) * 64 + w % 64) (by omega)
      refine ⟨sc_iff.2 (by omega), ?_, by rw [E]; rfl⟩
      rw [E]
      simp only [List.cons_append, List.nil_append]
      exact List.cons_eq_cons.2 ⟨by omega, List.cons_eq_cons.2 ⟨by omega, List.cons_eq_cons.2 ⟨by omega, List.cons_eq_cons.2 ⟨by omega, rfl⟩⟩⟩⟩
    rcases ld_cases x hx.1 hx.2 with ⟨c, hl⟩ | ⟨c, hl⟩ | ⟨c, hl⟩ | ⟨c, hl⟩ | ⟨c, hl⟩ | ⟨c, hl⟩ | ⟨c, hl⟩ | ⟨c, hl⟩ | ⟨c, hl⟩
    · rw [nx0 t hl, en1 c]
      exact ⟨sc_iff.2 (by omega), rfl, rfl⟩
    · rw [nx1 t hl] at h ⊢
      obtain ⟨y, t1, rfl, a0, a1, e1⟩ := ct_true h
      rw [e1, ct_end]
      have E := en2 (c := x % 32 * 64 + y % 64) (by omega) (by omega)
      refine ⟨sc_iff.2 (by omega), ?_, by rw [E]; rfl⟩
      rw [E]
      simp only [List.cons_append, List.nil_append]
      exact List.cons_eq_cons.2 ⟨by omega, List.cons_eq_cons.2 ⟨by omega, rfl⟩⟩
    · exact two hl (by omega) (by omega) (by omega) (by omega) (by omega) (by omega)
    · exact two hl (by omega) (by omega) (by omega) (by omega) (by omega) (by omega)
    · exact two hl (by omega) (by omega) (by omega) (by omega) (by omega) (by omega)
    · exact three hl (by omega) (by omega) (by omega) (by omega) (by omega) (by omega)
    · exact three hl (by omega) (by omega) (by omega) (by omega) (by omega) (by omega)
    · exact three hl (by omega) (by omega) (by omega) (by omega) (by omega) (by omega)
    · rw [nxm t hl] at h; simp at h
theorem nx_en (c : Int) (r : List Int) (h : sc c = true) : nx (en c ++ r) = (c, ((en c).length : Int), true) := by
  have h' := sc_iff.1 h
  by_cases h1 : c < 128
  · rw [en1 h1]
    rcases ld_cases c (by omega) (by omega) with ⟨_, hl⟩ | ⟨_, _⟩ | ⟨_, _⟩ | ⟨_, _⟩ | ⟨_, _⟩ | ⟨_, _⟩ | ⟨_, _⟩ | ⟨_, _⟩ | ⟨_, hl⟩
    · exact nx0 r hl
    all_goals omega
  · by_cases h2 : c < 2048
    · rw [en2 (by omega) h2]
      have hl : ld (192 + c / 64) = (1, 128, 191) := by unfold ld; rw [if_neg (by omega), if_pos (by omega)]
      show nx (_ :: _ :: r) = _
      rw [nx1 _ hl, ct_step _ _ _ _ (by omega) (by omega), ct_end]
      simp only [List.length_cons, List.length_nil, Prod.mk.injEq, and_true]
      exact ⟨by omega, by omega⟩
    · by_cases h3 : c < 65536
      · rw [en3 (by omega) h3]
        show nx (_ :: _ :: _ :: r) = _
        have key : ∀ lo hi, ld (224 + c / 4096) = (2, lo, hi) → lo ≤ 128 + c / 64 % 64 → 128 + c / 64 % 64 ≤ hi → nx ((224 + c / 4096) :: (128 + c / 64 % 64) :: (128 + c % 64) :: r) = (c, (([224 + c / 4096, 128 + c / 64 % 64, 128 + c % 64] : List Int).length : Int), true) := by
          intro lo hi hl g0 g1
          rw [nx2 _ hl, ct_step _ _ _ _ g0 g1, ct_step _ _ _ _ (by omega) (by omega), ct_end]
          simp only [List.length_cons, List.length_nil, Prod.mk.injEq, and_true]
          exact ⟨by omega, by omega⟩
        rcases ld_cases (224 + c / 4096) (by omega) (by omega) with ⟨a, hl⟩ | ⟨a, hl⟩ | ⟨a, hl⟩ | ⟨a, hl⟩ | ⟨a, hl⟩ | ⟨a, hl⟩ | ⟨a, hl⟩ | ⟨a, hl⟩ | ⟨a, hl⟩
        · omega
        · omega
        · exact key _ _ hl (by omega) (by omega)
        · exact key _ _ hl (by omega) (by omega)
        · exact key _ _ hl (by omega) (by omega)
        · omega
        · omega
        · omega
        · omega
      · rw [en4 (by omega)]
        show nx (_ :: _ :: _ :: _ :: r) = _
        have key : ∀ lo hi, ld (240 + c / 262144) = (3, lo, hi) → lo ≤ 128 + c / 4096 % 64 → 128 + c / 4096 % 64 ≤ hi → nx ((240 + c / 262144) :: (128 + c / 4096 % 64) :: (128 + c / 64 % 64) :: (128 + c % 64) :: r) = (c, (([240 + c / 262144, 128 + c / 4096 % 64, 128 + c / 64 % 64, 128 + c % 64] : List Int).length : Int), true) := by
          intro lo hi hl g0 g1
          rw [nx3 _ hl, ct_step _ _ _ _ g0 g1, ct_step _ _ _ _ (by omega) (by omega), ct_step _ _ _ _ (by omega) (by omega), ct_end]
          simp only [List.length_cons, List.length_nil, Prod.mk.injEq, and_true]
          exact ⟨by omega, by omega⟩
        have e : 240 + c / 262144 = 240 ∨ 240 + c / 262144 = 244 ∨ (241 ≤ 240 + c / 262144 ∧ 240 + c / 262144 ≤ 243) := by omega
        rcases e with e | e | e
        · refine key 144 191 ?_ (by omega) (by omega)
          unfold ld; rw [if_neg (by omega), if_neg (by omega), if_neg (by omega), if_neg (by omega), if_neg (by omega), if_pos e]
        · refine key 128 143 ?_ (by omega) (by omega)
          unfold ld; rw [if_neg (by omega), if_neg (by omega), if_neg (by omega), if_neg (by omega), if_neg (by omega), if_neg (by omega), if_pos e]
        · refine key 128 191 ?_ (by omega) (by omega)
          unfold ld; rw [if_neg (by omega), if_neg (by omega), if_neg (by omega), if_neg (by omega), if_neg (by omega), if_neg (by omega), if_neg (by omega), if_pos e]
/-- Decode, as the program tells it; n: as many rounds as there are bytes. -/
def decR : Nat → List Int → List Int → Int → List Int × Int × Int
  | 0, _, acc, _ => (acc, 0, 0)
  | _ + 1, [], acc, _ => (acc, 0, 0)
  | n + 1, x :: s, acc, at_ => if (nx (x :: s)).2.2 = true then decR n ((x :: s).drop (nx (x :: s)).2.1.toNat) (acc ++ [(nx (x :: s)).1]) (at_ + (nx (x :: s)).2.1) else ([], at_, 4)
def losR : Nat → List Int → List Int → List Int
  | 0, _, acc => acc
  | _ + 1, [], acc => acc
  | n + 1, x :: s, acc => losR n ((x :: s).drop (nx (x :: s)).2.1.toNat) (acc ++ [(nx (x :: s)).1])
/-- What one step takes. -/
theorem nx_n {b : List Int} (hy : bytes b) (hb : b ≠ []) : 1 ≤ (nx b).2.1 ∧ (nx b).2.1 ≤ b.length ∧ sc (nx b).1 = true := by
  cases h : (nx b).2.2 with
  | false => obtain ⟨a, b, c⟩ := nx_false hb h; exact ⟨b, c, by rw [a]; decide⟩
  | true =>
    obtain ⟨a, e, c⟩ := nx_true hy h
    have h1 := en_len (nx b).1
    have h2 := congrArg List.length e
    rw [List.length_append] at h2
    exact ⟨by omega, by omega, a⟩
theorem drop_lt {b : List Int} (hy : bytes b) (hb : b ≠ []) : (b.drop (nx b).2.1.toNat).length < b.length := by
  have := nx_n hy hb
  rw [List.length_drop]; omega
/-- Signs' bytes are read as they. -/
theorem decR_en : ∀ (l : List Int) (n : Nat) (acc : List Int) (a : Int) , (∀ c ∈ l, sc c = true) → (ens l).length ≤ n → decR n (ens l) acc a = (acc ++ l, 0, 0)
  | [], n, acc, a, _, _ => by cases n <;> simp [ens, decR]
  | c :: t, n, acc, a, hl, hn => by
    have h1 := en_len c
    have hc := hl c (by simp)
    have e : ens (c :: t) = en c ++ ens t := by simp [ens]
    have hnx := nx_en c (ens t) hc
    have hd : (en c ++ ens t).drop ((en c).length : Int).toNat = ens t := by rw [Int.toNat_natCast, List.drop_left]
    rw [e] at hn ⊢
    rw [List.length_append] at hn
    obtain ⟨n, rfl⟩ : ∃ m, n = m + 1 := ⟨n - 1, by omega⟩
    obtain ⟨x, s, hxs⟩ : ∃ x s, en c ++ ens t = x :: s := by
      cases hq : en c with
      | nil => rw [hq] at h1; simp at h1
      | cons x s => exact ⟨x, s ++ ens t, rfl⟩
    rw [hxs] at hnx hd ⊢
    rw [decR, if_pos (by rw [hnx]), hnx]
    simp only
    rw [hd, decR_en t n _ _ (fun x hx => hl x (by simp [hx])) (by omega)]
    simp
theorem losR_en : ∀ (l : List Int) (n : Nat) (acc : List Int) , (∀ c ∈ l, sc c = true) → (ens l).length ≤ n → losR n (ens l) acc = acc ++ l
  | [], n, acc, _, _ => by cases n <;> simp [ens, losR]
  | c :: t, n, acc, hl, hn => by
    have h1 := en_len c
    have hc := hl c (by simp)
    have e : ens (c :: t) = en c ++ ens t := by simp [ens]
    have hnx := nx_en c (ens t) hc
    have hd : (en c ++ ens t).drop ((en c).length : Int).toNat = ens t := by rw [Int.toNat_natCast, List.drop_left]
    rw [e] at hn ⊢
    rw [List.length_append] at hn
    obtain ⟨n, rfl⟩ : ∃ m, n = m + 1 := ⟨n - 1, by omega⟩
    obtain ⟨x, s, hxs⟩ : ∃ x s, en c ++ ens t = x :: s := by
      cases hq : en c with
      | nil => rw [hq] at h1; simp at h1
      | cons x s => exact ⟨x, s ++ ens t, rfl⟩
    rw [hxs] at hnx hd ⊢
    rw [losR, hnx]
    simp only
    rw [hd, losR_en t n _ (fun x hx => hl x (by simp [hx])) (by omega)]
    simp
/-- What Decode reads, or the place where it ends. -/
theorem decR_or : ∀ (n : Nat) (b acc : List Int) (a : Int), bytes b → b.length ≤ n → (∃ v, decR n b acc a = (acc ++ v, 0, 0) ∧ (∀ c ∈ v, sc c = true) ∧ b = ens v) ∨ (∃ i, decR n b acc a = ([], i, 4) ∧ a ≤ i ∧ i < a + b.length)
  | 0, b, acc, a, _, hn => .inl ⟨[], by simp [decR], by simp, by cases b <;> simp_all [ens]⟩
  | n + 1, [], acc, a, _, _ => .inl ⟨[], by simp [decR], by simp, by simp [ens]⟩
  | n + 1, x :: s, acc, a, hy, hn => by
    have hk := nx_n hy (by simp)
    have hlt := drop_lt hy (by simp)
    rw [decR]
    by_cases h : (nx (x :: s)).2.2 = true
    · rw [if_pos h]
      obtain ⟨h1, h2, h3⟩ := nx_true hy h
      rcases decR_or n ((x :: s).drop (nx (x :: s)).2.1.toNat) (acc ++ [(nx (x :: s)).1]) (a + (nx (x :: s)).2.1) (bytes_drop hy _) (by omega) with ⟨v, e, hv, hb⟩ | ⟨i, e, h4, h5⟩
      · refine .inl ⟨(nx (x :: s)).1 :: v, by rw [e]; simp, ?_, ?_⟩
        · exact fun c hc => (List.mem_cons.1 hc).elim (fun e => e ▸ h1) (fun hc => hv c hc)
        · have h2' := h2
          rw [hb] at h2'
          exact h2'.trans (by simp [ens])
      · refine .inr ⟨i, e, by omega, ?_⟩
        rw [List.length_drop] at h5
        omega
    · rw [if_neg h]
      exact .inr ⟨a, rfl, by omega, by simp only [List.length_cons]; omega⟩
theorem losR_sc : ∀ (n : Nat) (b acc : List Int), bytes b → (∀ c ∈ acc, sc c = true) → (∀ c ∈ losR n b acc, sc c = true) ∧ (losR n b acc).length ≤ acc.length + b.length
  | 0, b, acc, _, ha => ⟨ha, by simp [losR]⟩
  | n + 1, [], acc, _, ha => ⟨ha, by simp [losR]⟩
  | n + 1, x :: s, acc, hy, ha => by
    have hk := nx_n hy (by simp)
    have hlt := drop_lt hy (by simp)
    rw [losR]
    obtain ⟨h1, h2⟩ := losR_sc n ((x :: s).drop (nx (x :: s)).2.1.toNat) (acc ++ [(nx (x :: s)).1]) (bytes_drop hy _) (by
      intro c hc
      rcases List.mem_append.1 hc with hc | hc
      · exact ha c hc
      · rw [List.mem_singleton.1 hc]; exact hk.2.2)
    exact ⟨h1, by simp only [List.length_append, List.length_cons, List.length_nil] at h2 hlt ⊢; omega⟩
theorem ct_ge : ∀ (t : List Int) (m : Nat) (lo hi acc i : Int), i ≤ (ct t m lo hi acc i).2.1
  | _, 0, _, _, _, _ => by rw [ct_end]; exact Int.le_refl _
  | [], m + 1, lo, hi, acc, i => by simp [ct]
  | y :: t, m + 1, lo, hi, acc, i => by
    by_cases h : y < lo ∨ y > hi
    · rw [ct, if_pos h]; exact Int.le_refl _
    · rw [ct, if_neg h]
      have := ct_ge t m 128 191 (acc * 64 + y % 64) (i + 1)
      omega
theorem nx_ge (x : Int) (t : List Int) : 1 ≤ (nx (x :: t)).2.1 := by
  rw [nx]
  split
  · exact Int.le_refl _
  · split
    · exact Int.le_refl _
    · exact ct_ge _ _ _ _ _ _
theorem drop_le (x : Int) (s : List Int) : ((x :: s).drop (nx (x :: s)).2.1.toNat).length ≤ s.length := by
  have := nx_ge x s
  rw [List.length_drop, List.length_cons]; omega
/-- More rounds than bytes tell the same. -/
theorem losR_any : ∀ (n m : Nat) (b acc : List Int), b.length ≤ n → b.length ≤ m → losR n b acc = losR m b acc
  | 0, m, [], acc, _, _ => by cases m <;> rfl
  | n + 1, m, [], acc, _, _ => by cases m <;> rfl
  | 0, m, x :: s, acc, h, _ => by simp at h
  | n + 1, 0, x :: s, acc, _, h => by simp at h
  | n + 1, m + 1, x :: s, acc, h, h' => by
    have hd := drop_le x s
    simp only [List.length_cons] at h h'
    rw [losR, losR]
    exact losR_any n m _ _ (by omega) (by omega)
theorem losR_more (n : Nat) (b acc : List Int) (h : b.length ≤ n) : losR n b acc = losR b.length b acc := losR_any n b.length b acc h (Nat.le_refl _)
theorem losR_acc : ∀ (n : Nat) (b acc : List Int), losR n b acc = acc ++ losR n b []
  | 0, b, acc => by simp [losR]
  | n + 1, [], acc => by simp [losR]
  | n + 1, x :: s, acc => by
    rw [losR, losR, losR_acc n _ (acc ++ _), losR_acc n _ ([] ++ _)]
    simp
theorem ens_bytes {l : List Int} (h : ∀ c ∈ l, sc c = true) : bytes (ens l) := by
  intro x hx
  obtain ⟨c, hc, hx⟩ := List.mem_flatMap.1 hx
  have h' := sc_iff.1 (h c hc)
  unfold en at hx
  (repeat' split at hx) <;> simp only [List.mem_cons, List.not_mem_nil, or_false] at hx <;> omega
theorem i64w (n : Int) (h₀ : 0 ≤ n) (h₁ : n < 2 ^ 63) : IntKind.i64.wrap n = n := by rw [IntKind.wrap_i64]; omega
theorem and63 (x : Int) (h0 : 0 ≤ x) (h1 : x < 9223372036854775808) : Go.bits .and .i64 x 63 = x % 64 := Go.bits_mask .i64 63 (by decide) i64w 6 (by decide) x h0 h1
theorem and31 (x : Int) (h0 : 0 ≤ x) (h1 : x < 9223372036854775808) : Go.bits .and .i64 x 31 = x % 32 := Go.bits_mask .i64 63 (by decide) i64w 5 (by decide) x h0 h1
theorem and15 (x : Int) (h0 : 0 ≤ x) (h1 : x < 9223372036854775808) : Go.bits .and .i64 x 15 = x % 16 := Go.bits_mask .i64 63 (by decide) i64w 4 (by decide) x h0 h1
theorem and7 (x : Int) (h0 : 0 ≤ x) (h1 : x < 9223372036854775808) : Go.bits .and .i64 x 7 = x % 8 := Go.bits_mask .i64 63 (by decide) i64w 3 (by decide) x h0 h1
theorem or128 (y : Int) (h0 : 0 ≤ y) (h1 : y < 64) : Go.bits .or .i64 128 y = 128 + y :=
  Go.bits_join .i64 63 (by decide) i64w 6 128 y (by decide) (by decide) (by decide) h0 h1 (by omega)
theorem or192 (y : Int) (h0 : 0 ≤ y) (h1 : y < 32) : Go.bits .or .i64 192 y = 192 + y :=
  Go.bits_join .i64 63 (by decide) i64w 5 192 y (by decide) (by decide) (by decide) h0 h1 (by omega)
theorem or224 (y : Int) (h0 : 0 ≤ y) (h1 : y < 16) : Go.bits .or .i64 224 y = 224 + y :=
  Go.bits_join .i64 63 (by decide) i64w 4 224 y (by decide) (by decide) (by decide) h0 h1 (by omega)
theorem or240 (y : Int) (h0 : 0 ≤ y) (h1 : y < 8) : Go.bits .or .i64 240 y = 240 + y :=
  Go.bits_join .i64 63 (by decide) i64w 3 240 y (by decide) (by decide) (by decide) h0 h1 (by omega)
theorem orsix (x y : Int) (hx : 0 ≤ x) (hx1 : x < 100000000000000000) (h0 : 0 ≤ y) (h1 : y < 64) : Go.bits .or .i64 (x * 64) y = x * 64 + y :=
  Go.bits_join .i64 63 (by decide) i64w 6 (x * 64) y (by omega) (by omega) (by omega) h0 h1 (by omega)
theorem Scalar_ok (c : Int) : utf_Scalar.f c = some (sc c) := by
  unfold utf_Scalar.f sc
  by_cases h1 : c ≥ 0 <;> by_cases h2 : c ≤ 1114111 <;> by_cases h3 : c < 55296 <;> simp [h1, h2, h3] <;> omega
theorem lay_ok (l : List Int) (c : Int) (h : sc c = true) (hl : l.length < 140737488355000) : utf_lay.f l c = some (l ++ en c) := by
  have h' := sc_iff.1 h
  unfold utf_lay.f en
  by_cases h1 : c < 128
  · rw [if_pos h1, if_pos h1, if_pos (by omega), Int.emod_eq_of_lt (by omega) (by omega)]
  · rw [if_neg h1, if_neg h1, and63 c (by omega) (by omega), and63 (c / 64) (by omega) (by omega), and63 (c / 4096) (by omega) (by omega), or128 (c % 64) (by omega) (by omega), or128 (c / 64 % 64) (by omega) (by omega), or128 (c / 4096 % 64) (by omega) (by omega)]
    by_cases h2 : c < 2048
    · rw [if_pos h2, if_pos h2, or192 (c / 64) (by omega) (by omega), Int.emod_eq_of_lt (a := 192 + c / 64) (by omega) (by omega), Int.emod_eq_of_lt (a := 128 + c % 64) (by omega) (by omega)]
      simp only [Option.bind_some, List.length_cons, List.length_nil]
      rw [if_pos (by omega)]
    · rw [if_neg h2, if_neg h2]
      by_cases h3 : c < 65536
      · rw [if_pos h3, if_pos h3, or224 (c / 4096) (by omega) (by omega), Int.emod_eq_of_lt (a := 224 + c / 4096) (by omega) (by omega), Int.emod_eq_of_lt (a := 128 + c / 64 % 64) (by omega) (by omega), Int.emod_eq_of_lt (a := 128 + c % 64) (by omega) (by omega)]
        simp only [Option.bind_some, List.length_cons, List.length_nil]
        rw [if_pos (by omega)]
      · rw [if_neg h3, if_neg h3, or240 (c / 262144) (by omega) (by omega), Int.emod_eq_of_lt (a := 240 + c / 262144) (by omega) (by omega), Int.emod_eq_of_lt (a := 128 + c / 4096 % 64) (by omega) (by omega), Int.emod_eq_of_lt (a := 128 + c / 64 % 64) (by omega) (by omega), Int.emod_eq_of_lt (a := 128 + c % 64) (by omega) (by omega)]
        simp only [Option.bind_some, List.length_cons, List.length_nil]
        rw [if_pos (by omega)]
theorem enc_loop (l : List Int) (hl : l.length ≤ 1000000) : ∀ (suf : List Int) (i : Nat) (acc : List Int), l.drop i = suf → acc.length ≤ 4 * i →
    Ev (fun k => utf_Encode.l0 k acc l (l.length : Int) (i : Int)) (encR acc suf)
  | [], i, acc, hs, ha => by
    have := drop_nil hs
    refine Ev.succ (Ev.neg (by omega) (Ev.now _))
  | c :: t, i, acc, hs, ha => by
    obtain ⟨hi, hc, ht⟩ := drop_cons hs
    refine Ev.succ (Ev.pos (by omega) (Ev.pos (by omega) (Ev.pos (by omega) ?_)))
    rw [rd_of hc]
    refine Ev.bnd (Scalar_ok c) ?_
    by_cases h : sc c = true
    · rw [encR, if_pos h]
      refine Ev.pos h (Ev.bnd (lay_ok acc c h (by omega)) ?_)
      rw [wrap_id (by omega) (by omega), cast_succ]
      exact enc_loop l hl t (i + 1) _ ht (by have := en_len c; simp only [List.length_append]; omega)
    · rw [encR, if_neg h]
      exact Ev.neg h (Ev.now _)
theorem Encode_ok (l : List Int) (hl : l.length ≤ 1000000) : Ev (fun k => utf_Encode.f k l) (encR [] l) := by
  unfold utf_Encode.f
  exact enc_loop l hl l 0 [] rfl (by simp)
theorem lead_ok (x : Int) : Ev (fun k => utf_lead.f k x) (ld x) := by
  refine Ev.at 2 fun k => ?_
  unfold utf_lead.f ld
  by_cases h1 : x < 128
  · rw [if_pos h1, if_pos h1]
  · rw [if_neg h1, if_neg h1]
    simp only [utf_lead.j0, utf_lead.j1]
    by_cases h2 : x ≥ 194 <;> by_cases h3 : x ≤ 223 <;> by_cases h4 : x = 224 <;> by_cases h5 : x = 237 <;> by_cases h6 : x ≥ 225 <;> by_cases h7 : x ≤ 239 <;> by_cases h8 : x = 240 <;> by_cases h9 : x = 244 <;> by_cases h10 : x ≥ 241 <;> by_cases h11 : x ≤ 243 <;> first | (exfalso; omega) | simp [*]
theorem next_loop (b : List Int) (m : Int) (hb : b.length ≤ 1000000) (hy : bytes b) : ∀ (r : Nat) (suf : List Int) (i : Nat) (lo hi acc : Int), b.drop i = suf → m - i + 1 = r → r ≤ 3 → m ≤ 3 → 0 ≤ acc → acc < 64 ^ (4 - r) → i ≤ b.length →
    Ev (fun k => utf_next.l0 k b m lo hi acc i) (ct suf r lo hi acc i)
  | 0, suf, i, lo, hi, acc, hs, hr, _, hi5, h0, h1, _ => by
    rw [ct_end]
    refine Ev.succ (Ev.neg (by omega) ?_)
    rw [wrap_id (by omega) (by omega)]
    exact Ev.konst (by congr; omega)
  | r + 1, [], i, lo, hi, acc, hs, hr, hr3, hi5, h0, h1, hl => by
    have := drop_nil hs
    exact Ev.succ (Ev.pos (by omega) (Ev.pos (by omega) (Ev.now _)))
  | r + 1, y :: t, i, lo, hi, acc, hs, hr, hr3, hi5, h0, h1, hl => by
    obtain ⟨hlt, hc, ht⟩ := drop_cons hs
    have hyy := hy y (List.mem_of_getElem? hc)
    refine Ev.succ (Ev.pos (by omega) (Ev.neg (by omega) (Ev.pos (by omega) (Ev.pos (by omega) ?_))))
    rw [rd_of hc, ct]
    by_cases h2 : y < lo
    · rw [if_pos (.inl h2)]; exact Ev.pos h2 (Ev.now _)
    · by_cases h3 : y > hi
      · rw [if_pos (.inr h3)]; exact Ev.neg h2 (Ev.pos h3 (Ev.now _))
      · rw [if_neg (by omega)]
        refine Ev.neg h2 (Ev.neg h3 ?_)
        have hp : (64 : Int) ^ (4 - (r + 1)) * 64 = 64 ^ (4 - r) := by rw [← Int.pow_succ]; congr 1; omega
        have hq : (64 : Int) ^ (4 - (r + 1)) ≤ 64 ^ 3 := by
          have : r = 0 ∨ r = 1 ∨ r = 2 := by omega
          rcases this with rfl | rfl | rfl <;> decide
        have h64 : (64 : Int) ^ 3 = 262144 := by decide
        rw [wrap_id (x := acc * 64) (by omega) (by omega), wrap_id (x := y) (by omega) (by omega), and63 y (by omega) (by omega), orsix acc (y % 64) h0 (by omega) (by omega) (by omega), wrap_id (x := (i : Int) + 1) (by omega) (by omega), cast_succ]
        exact next_loop b m hb hy r t (i + 1) 128 191 _ ht (by omega) (by omega) (by omega) (by omega) (by omega) (by omega)
theorem next_ok (b : List Int) (hb : b.length ≤ 1000000) (hy : bytes b) (hne : b ≠ []) : Ev (fun k => utf_next.f k b) (nx b) := by
  cases b with
  | nil => exact absurd rfl hne
  | cons x t =>
    have hx := hy x (by simp)
    have h0 : rd (x :: t) 0 = x := rfl
    unfold utf_next.f
    refine Ev.pos (by simp only [List.length_cons]; omega) ?_
    rw [h0]
    refine Ev.bind (lead_ok x) ?_
    have go : ∀ (m : Nat) lo hi acc, ld x = ((m : Int), lo, hi) → 1 ≤ m → m ≤ 3 → Go.bits .and .i64 x (shr .i64 63 m) = acc → 0 ≤ acc → acc < 64 → Ev (fun k => utf_next.l0 k (x :: t) (m : Int) lo hi acc 1) (ct t m lo hi acc 1) := by
      intro m lo hi acc hl h1 h3 _ ha hb'
      have hp : acc < 64 ^ (4 - m) := by
        have : m = 1 ∨ m = 2 ∨ m = 3 := by omega
        rcases this with rfl | rfl | rfl <;> omega
      exact next_loop (x :: t) m hb hy m t 1 lo hi acc rfl (by omega) (by omega) (by omega) ha hp (by simp only [List.length_cons]; omega)
    rw [wrap_id (x := x) (by omega) (by omega)]
    have s1 : shr .i64 63 1 = 31 := by decide
    have s2 : shr .i64 63 2 = 15 := by decide
    have s3 : shr .i64 63 3 = 7 := by decide
    have f1 : ∀ lo hi, ld x = (1, lo, hi) → Ev (fun n => if (ld x).1 < 0 then some (65533, 1, false) else if (ld x).1 = 0 then some (x, 1, true) else if 0 ≤ (ld x).1 then utf_next.l0 n (x :: t) (ld x).1 (ld x).2.1 (ld x).2.2 (Go.bits .and .i64 x (shr .i64 63 (ld x).1)) 1 else none) (nx (x :: t)) := by
      intro lo hi hl
      rw [nx1 t hl, hl]
      refine Ev.neg (by simp) (Ev.neg (by simp) (Ev.pos (by simp) ?_))
      simp only
      rw [s1, and31 x (by omega) (by omega)]
      exact go 1 lo hi _ hl (by omega) (by omega) (by rw [show ((1 : Nat) : Int) = 1 from rfl, s1, and31 x (by omega) (by omega)]) (by omega) (by omega)
    have f2 : ∀ lo hi, ld x = (2, lo, hi) → Ev (fun n => if (ld x).1 < 0 then some (65533, 1, false) else if (ld x).1 = 0 then some (x, 1, true) else if 0 ≤ (ld x).1 then utf_next.l0 n (x :: t) (ld x).1 (ld x).2.1 (ld x).2.2 (Go.bits .and .i64 x (shr .i64 63 (ld x).1)) 1 else none) (nx (x :: t)) := by
      intro lo hi hl
      rw [nx2 t hl, hl]
      refine Ev.neg (by simp) (Ev.neg (by simp) (Ev.pos (by simp) ?_))
      simp only
      rw [s2, and15 x (by omega) (by omega)]
      exact go 2 lo hi _ hl (by omega) (by omega) (by rw [show ((2 : Nat) : Int) = 2 from rfl, s2, and15 x (by omega) (by omega)]) (by omega) (by omega)
    have f3 : ∀ lo hi, ld x = (3, lo, hi) → Ev (fun n => if (ld x).1 < 0 then some (65533, 1, false) else if (ld x).1 = 0 then some (x, 1, true) else if 0 ≤ (ld x).1 then utf_next.l0 n (x :: t) (ld x).1 (ld x).2.1 (ld x).2.2 (Go.bits .and .i64 x (shr .i64 63 (ld x).1)) 1 else none) (nx (x :: t)) := by
      intro lo hi hl
      rw [nx3 t hl, hl]
      refine Ev.neg (by simp) (Ev.neg (by simp) (Ev.pos (by simp) ?_))
      simp only
      rw [s3, and7 x (by omega) (by omega)]
      exact go 3 lo hi _ hl (by omega) (by omega) (by rw [show ((3 : Nat) : Int) = 3 from rfl, s3, and7 x (by omega) (by omega)]) (by omega) (by omega)
    rcases ld_cases x hx.1 hx.2 with ⟨c, hl⟩ | ⟨c, hl⟩ | ⟨c, hl⟩ | ⟨c, hl⟩ | ⟨c, hl⟩ | ⟨c, hl⟩ | ⟨c, hl⟩ | ⟨c, hl⟩ | ⟨c, hl⟩
    · rw [nx0 t hl, hl]
      exact Ev.neg (by simp) (Ev.pos rfl (Ev.now _))
    · exact f1 _ _ hl
    · exact f2 _ _ hl
    · exact f2 _ _ hl
    · exact f2 _ _ hl
    · exact f3 _ _ hl
    · exact f3 _ _ hl
    · exact f3 _ _ hl
    · rw [nxm t hl, hl]
      exact Ev.pos (by simp) (Ev.now _)
theorem dec_loop (b : List Int) (hb : b.length ≤ 1000000) (hy : bytes b) : ∀ (n i : Nat) (acc : List Int), b.length - i ≤ n → i ≤ b.length → acc.length ≤ i →
    Ev (fun k => utf_Decode.l0 k b acc i) (decR n (b.drop i) acc i)
  | 0, i, acc, hn, hi, ha => by
    rw [decR]
    exact Ev.succ (Ev.neg (by omega) (Ev.now _))
  | n + 1, i, acc, hn, hi, ha => by
    cases hs : b.drop i with
    | nil =>
      have := drop_nil hs
      rw [decR]
      exact Ev.succ (Ev.neg (by omega) (Ev.now _))
    | cons x s =>
      obtain ⟨hlt, hc, ht⟩ := drop_cons hs
      have hyd := bytes_drop hy i
      have hne : b.drop i ≠ [] := by rw [hs]; simp
      have hk := nx_n hyd hne
      have hok := next_ok (b.drop i) (by rw [List.length_drop]; omega) hyd hne
      rw [List.length_drop] at hk
      refine Ev.succ (Ev.pos (by omega) (Ev.pos (by omega) (Ev.pos (by omega) ?_)))
      rw [Int.toNat_natCast]
      refine Ev.bind hok ?_
      rw [decR, ← hs]
      by_cases h : (nx (b.drop i)).2.2 = true
      · rw [if_pos h]
        refine Ev.pos h (Ev.pos (by omega) ?_)
        have e : wrap64 ((i : Int) + (nx (b.drop i)).2.1) = ((i + (nx (b.drop i)).2.1.toNat : Nat) : Int) := by rw [wrap_id (by omega) (by omega)]; omega
        have e2 : (i : Int) + (nx (b.drop i)).2.1 = ((i + (nx (b.drop i)).2.1.toNat : Nat) : Int) := by omega
        rw [e, e2, List.drop_drop]
        exact dec_loop b hb hy n _ _ (by omega) (by omega) (by simp only [List.length_append, List.length_cons, List.length_nil]; omega)
      · rw [if_neg h]
        exact Ev.neg h (Ev.now _)
theorem Decode_ok (b : List Int) (hb : b.length ≤ 1000000) (hy : bytes b) : Ev (fun k => utf_Decode.f k b) (decR b.length b [] 0) := by
  unfold utf_Decode.f
  exact dec_loop b hb hy b.length 0 [] (by omega) (by omega) (by simp)
theorem first_ok : Ev (fun k => sprlaw2_first.f k) true := Ev.of (fun k => sprlaw2_first.mono k) (k := 30) (by kernel_rfl)
theorem wf_i64 {x : Int} (h : (Lit.int .i64 x).wf = true) : -9223372036854775808 ≤ x ∧ x ≤ 9223372036854775807 := by
  simp [Lit.wf, IntKind.min, IntKind.max, IntKind.signed, IntKind.bits] at h
  omega
theorem wf_u8 {x : Int} (h : (Lit.int .u8 x).wf = true) : 0 ≤ x ∧ x < 256 := by
  simp [Lit.wf, IntKind.min, IntKind.max, IntKind.signed, IntKind.bits] at h
  omega
theorem long_dec (a b : Int) (ha : 0 ≤ a) (ha1 : a < 256) (hb : 0 ≤ b) (hb1 : b < 256) : Ev (fun k => utf_Decode.f k ([120] ++ [240, 128, a, b])) ([], 1, 4) := by
  have hy : bytes ([120] ++ [240, 128, a, b]) := by
    intro x hx
    simp only [List.cons_append, List.nil_append, List.mem_cons, List.not_mem_nil, or_false] at hx
    omega
  have h := Decode_ok ([120] ++ [240, 128, a, b]) (by simp) hy
  have e : decR ([120] ++ [240, 128, a, b]).length ([120] ++ [240, 128, a, b]) [] 0 = ([], 1, 4) := by
    have n1 : nx [120, 240, 128, a, b] = (120, 1, true) := nx0 (lo := 0) (hi := 0) _ (by decide)
    have n2 : nx [240, 128, a, b] = (65533, 1, false) := by
      rw [nx3 (lo := 144) (hi := 191) _ (by decide), ct, if_pos (.inl (by omega))]
    show decR 5 [120, 240, 128, a, b] [] 0 = _
    rw [decR, n1, if_pos rfl]
    show decR 4 [240, 128, a, b] [120] 1 = _
    rw [decR, n2, if_neg (by simp)]
  rw [e] at h
  exact h
theorem wid_end (c : Int) (hc : sc c = true) (b : List Int) (n : Int) (hb : 0 < (b.length : Int)) (h1 : (n == 1) = decide (rd b 0 < 128)) (h2 : n = 2 → rd b 0 / 32 = 6) (h3 : n = 3 → rd b 0 / 16 = 14) (h4 : n = 4 → rd b 0 / 8 = 30) :
    Ev (fun k => sprlaw2_UtfWidths.l0 k c b n n) true := by
  have h' := sc_iff.1 hc
  have i1 : (if n = 4 then some (rd b 0 / 8 == 30) else some true) = some true := by
    by_cases e : n = 4
    · rw [if_pos e, h4 e]; rfl
    · rw [if_neg e]
  have i2 : (if n = 3 then (if rd b 0 / 16 = 14 then (if n = 4 then some (rd b 0 / 8 == 30) else some true) else some false) else (if n = 4 then some (rd b 0 / 8 == 30) else some true)) = some true := by
    by_cases e : n = 3
    · rw [if_pos e, if_pos (h3 e), i1]
    · rw [if_neg e, i1]
  refine Ev.step (fun _ => sprlaw2_UtfWidths.l0.eq_2 ..) (Ev.neg (by omega) ?_)
  rw [and63 (c / 64) (by omega) (by omega), and63 c (by omega) (by omega), or128 (c / 64 % 64) (by omega) (by omega), or128 (c % 64) (by omega) (by omega), Int.emod_eq_of_lt (a := 128 + c / 64 % 64) (by omega) (by omega), Int.emod_eq_of_lt (a := 128 + c % 64) (by omega) (by omega)]
  refine Ev.bnd rfl (Ev.bnd rfl (Ev.pos (by simp) (Ev.bind (long_dec _ _ (by omega) (by omega) (by omega) (by omega)) (Ev.bind first_ok (Ev.pos rfl (Ev.konst ?_))))))
  have inner : (if ((n == 1) == decide (rd b 0 < 128)) = true then (if n = 2 then (if rd b 0 / 32 = 6 then (if n = 3 then (if rd b 0 / 16 = 14 then (if n = 4 then some (rd b 0 / 8 == 30) else some true) else some false) else (if n = 4 then some (rd b 0 / 8 == 30) else some true)) else some false) else (if n = 3 then (if rd b 0 / 16 = 14 then (if n = 4 then some (rd b 0 / 8 == 30) else some true) else some false) else (if n = 4 then some (rd b 0 / 8 == 30) else some true))) else some false) = some true := by
    rw [h1, if_pos (by simp)]
    by_cases e : n = 2
    · rw [if_pos e, if_pos (h2 e), i2]
    · rw [if_neg e, i2]
  by_cases h5 : c ≥ 4096
  · rw [if_pos h5, if_pos hb]; exact inner
  · rw [if_neg h5, if_pos rfl, if_pos rfl, if_pos hb]; exact inner
theorem wid_loop (c : Int) (b : List Int) (n : Int) (hn : n ≤ b.length) (hl : b.length ≤ 10) (hf : Ev (fun k => sprlaw2_UtfWidths.l0 k c b n n) true) : ∀ (d : Nat) (i : Int), 0 ≤ i → i + d = n → (∀ j : Int, i ≤ j → j < n → 128 ≤ rd b j ∧ rd b j ≤ 191) →
    Ev (fun k => sprlaw2_UtfWidths.l0 k c b n i) true
  | 0, i, h0, hd, _ => by
    have : i = n := by omega
    subst this; exact hf
  | d + 1, i, h0, hd, hb => by
    have h := hb i (by omega) (by omega)
    refine Ev.step (fun _ => sprlaw2_UtfWidths.l0.eq_2 ..) (Ev.pos (by omega) (Ev.pos h0 (Ev.pos (by omega) (Ev.neg (by omega) (Ev.neg (by omega) ?_)))))
    rw [wrap_id (by omega) (by omega)]
    exact wid_loop c b n hn hl hf d (i + 1) (by omega) (by omega) (fun j h1 h2 => hb j (by omega) h2)
theorem UtfWidths : sprlaw2_UtfWidths.Pure := by
  intro c _
  refine Ev.rounds ?_
  unfold sprlaw2_UtfWidths.f
  refine Ev.bind first_ok (Ev.pos rfl (Ev.bind (Encode_ok [c] (by simp)) ?_))
  by_cases h : sc c = true
  · have e : encR [] [c] = (en c, 0) := by simp [encR, h]
    have h' := sc_iff.1 h
    rw [e]
    refine Ev.pos rfl ?_
    have w2 : wrap64 (1 + 1 + 1) = 3 := by unfold wrap64; omega
    have w3 : wrap64 (3 + 1) = 4 := by unfold wrap64; omega
    have j2 : ∀ n : Int, (((en c).length : Nat) : Int) = n → Ev (fun k => sprlaw2_UtfWidths.l0 k c (en c) n 1) true → Ev (fun k => sprlaw2_UtfWidths.j2 k c (en c) n) true := fun n hn hl => Ev.step (fun _ => sprlaw2_UtfWidths.j2.eq_2 ..) (Ev.pos hn hl)
    by_cases c1 : c < 128
    · have he := en1 c1
      refine Ev.neg (by omega) (Ev.step (fun _ => sprlaw2_UtfWidths.j0.eq_2 ..) (Ev.neg (by omega) (Ev.step (fun _ => sprlaw2_UtfWidths.j1.eq_2 ..) (Ev.neg (by omega) (j2 1 (by rw [he]; rfl) ?_)))))
      rw [he]
      have r0 : rd [c] 0 = c := rfl
      exact wid_end c h [c] 1 (by simp) (by rw [r0, decide_eq_true c1]; rfl) (by omega) (by omega) (by omega)
    · by_cases c2 : c < 2048
      · have he := en2 (by omega) c2
        refine Ev.pos (by omega) (Ev.step (fun _ => sprlaw2_UtfWidths.j0.eq_2 ..) (Ev.neg (by omega) (Ev.step (fun _ => sprlaw2_UtfWidths.j1.eq_2 ..) (Ev.neg (by omega) (j2 2 (by rw [he]; rfl) ?_)))))
        rw [he]
        have r0 : rd [192 + c / 64, 128 + c % 64] 0 = 192 + c / 64 := rfl
        have r1 : rd [192 + c / 64, 128 + c % 64] 1 = 128 + c % 64 := rfl
        have hf := wid_end c h [192 + c / 64, 128 + c % 64] 2 (by simp) (by rw [r0, decide_eq_false (by omega)]; rfl) (by omega) (by omega) (by omega)
        refine wid_loop c _ 2 (by simp) (by simp) hf 1 1 (by omega) (by omega) (fun j h1 h2 => ?_)
        have : j = 1 := by omega
        subst this; rw [r1]; omega
      · by_cases c3 : c < 65536
        · have he := en3 (by omega) c3
          refine Ev.pos (by omega) (Ev.step (fun _ => sprlaw2_UtfWidths.j0.eq_2 ..) (Ev.pos (by omega) ?_))
          rw [w2]
          refine Ev.step (fun _ => sprlaw2_UtfWidths.j1.eq_2 ..) (Ev.neg (by omega) (j2 3 (by rw [he]; rfl) ?_))
          rw [he]
          have r0 : rd [224 + c / 4096, 128 + c / 64 % 64, 128 + c % 64] 0 = 224 + c / 4096 := rfl
          have r1 : rd [224 + c / 4096, 128 + c / 64 % 64, 128 + c % 64] 1 = 128 + c / 64 % 64 := rfl
          have r2 : rd [224 + c / 4096, 128 + c / 64 % 64, 128 + c % 64] 2 = 128 + c % 64 := rfl
          have hf := wid_end c h [224 + c / 4096, 128 + c / 64 % 64, 128 + c % 64] 3 (by simp) (by rw [r0, decide_eq_false (by omega)]; rfl) (by omega) (by omega) (by omega)
          refine wid_loop c _ 3 (by simp) (by simp) hf 2 1 (by omega) (by omega) (fun j h1 h2 => ?_)
          have : j = 1 ∨ j = 2 := by omega
          rcases this with rfl | rfl
          · rw [r1]; omega
          · rw [r2]; omega
        · have he := en4 (c := c) (by omega)
          refine Ev.pos (by omega) (Ev.step (fun _ => sprlaw2_UtfWidths.j0.eq_2 ..) (Ev.pos (by omega) ?_))
          rw [w2]
          refine Ev.step (fun _ => sprlaw2_UtfWidths.j1.eq_2 ..) (Ev.pos (by omega) ?_)
          rw [w3]
          refine j2 4 (by rw [he]; rfl) ?_
          rw [he]
          have r0 : rd [240 + c / 262144, 128 + c / 4096 % 64, 128 + c / 64 % 64, 128 + c % 64] 0 = 240 + c / 262144 := rfl
          have r1 : rd [240 + c / 262144, 128 + c / 4096 % 64, 128 + c / 64 % 64, 128 + c % 64] 1 = 128 + c / 4096 % 64 := rfl
          have r2 : rd [240 + c / 262144, 128 + c / 4096 % 64, 128 + c / 64 % 64, 128 + c % 64] 2 = 128 + c / 64 % 64 := rfl
          have r3 : rd [240 + c / 262144, 128 + c / 4096 % 64, 128 + c / 64 % 64, 128 + c % 64] 3 = 128 + c % 64 := rfl
          have hf := wid_end c h [240 + c / 262144, 128 + c / 4096 % 64, 128 + c / 64 % 64, 128 + c % 64] 4 (by simp) (by rw [r0, decide_eq_false (by omega)]; rfl) (by omega) (by omega) (by omega)
          refine wid_loop c _ 4 (by simp) (by simp) hf 3 1 (by omega) (by omega) (fun j h1 h2 => ?_)
          have : j = 1 ∨ j = 2 ∨ j = 3 := by omega
          rcases this with rfl | rfl | rfl
          · rw [r1]; omega
          · rw [r2]; omega
          · rw [r3]; omega
  · have e : encR [] [c] = ([], 1) := by simp [encR, h]
    rw [e]
    refine Ev.neg (by simp) (Ev.bind first_ok (Ev.pos rfl (Ev.bnd (Scalar_ok c) (Ev.konst ?_))))
    rw [if_neg h]; rfl

end Go.Proofs.Ytgpomfldlibldaa.Pure
